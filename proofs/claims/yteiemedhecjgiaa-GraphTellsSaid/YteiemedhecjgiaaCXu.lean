/- Texts of Xu. -/
import Derived.Test.YteiemedhecjgiaaCXt
import Derived.Shelf.Strconv.ParseIntPublic10
import Derived.Lib.IndexMore
import Derived.Sort.Row
import Derived.Lib.AppendStr
import Derived.Lib.ItoaNum
import Derived.Lib.UnsafeStr
set_option linter.unusedSimpArgs false
set_option linter.unusedVariables false
set_option linter.unusedSectionVars false
namespace Go.Xt
open Go.Wk Go.RowKit
theorem Rw.split {α:Type} [Mo α] {μ:M}:∀ {l:List α} {cells:List Value} {i:Nat} {x:α},Rw μ cells l→l[i]?=some x →
  ∃ pc cs sc,cells=pc++(cs++sc)∧pc.length=i*Mo.sz α∧Mo.cs μ cs x∧∀ (μ':M) (cs':List Value) (x':α),Le μ μ'→Mo.cs μ' cs' x'→Rw μ' (pc++(cs'++sc)) (l.set i x')
 | [],cells,i,x,h,hx=>by simp at hx
 | y::l,cells,i,x,h,hx=>by
  rw [Rw] at h
  obtain ⟨cs,t,rfl,h1,h2⟩:=h
  cases i with
  | zero =>
   simp at hx
   subst hx
   exact ⟨[],cs,t,rfl,by simp,h1,fun μ' cs' x' hl h'=>⟨cs',t,rfl,h',h2.up hl⟩⟩
  | succ i =>
   simp at hx
   obtain ⟨pc,cs2,sc,rfl,e,m,st⟩:=Rw.split h2 hx
   exact ⟨cs++pc,cs2,sc,by simp,by simp [e,Mo.ln h1,Nat.add_mul]; omega,m,fun μ' cs' x' hl h'=>⟨cs,pc++(cs'++sc),by simp,Mo.up hl h1,st μ' cs' x' hl h'⟩⟩
theorem _root_.Go.Wk.Row.elemS {α:Type} [Mo α] {w:World} {T:TypeId} {n:Nat} {μ:M} {v:Value} {cells:List Value} {l:List α} {i:Int} {x:α} (h:Row w v T (Mo.sz α) n cells) (hr:Rw μ cells l) (hn:l.length=n) (g:at_ l i=some x) :
  ∃ b o pc cs sc,cells=pc++(cs++sc)∧Elv v (Mo.sz α) i b o∧(∀ w T cs',Row w v T (Mo.sz α) n (pc++(cs'++sc))→cs'.length=Mo.sz α→CellsAt w b o cs')∧Mo.cs μ cs x∧pc.length=i.toNat*Mo.sz α ∧
   (∀ (μ':M) (cs':List Value) (x':α),Le μ μ'→Mo.cs μ' cs' x'→Rw μ' (pc++(cs'++sc)) (l.set i.toNat x'))∧Rw μ (pc++(cs++sc)) l:=by
 obtain ⟨h0,h1,h2⟩:=at_eq g
 obtain ⟨b,o,c,rfl,hc⟩:=h.some' (by omega)
 obtain ⟨pc,cs,sc,rfl,e,m,st⟩:=hr.split h2
 refine ⟨b,o+i.toNat*Mo.sz α,pc,cs,sc,rfl,⟨o,_,_,rfl,h0,by omega,rfl⟩,?_,m,e,st,hr⟩
 intro w2 T2 cs' hk hl j u hj
 obtain ⟨b',o',c',hv,hc'⟩:=hk.some' (by omega)
 simp at hv
 obtain ⟨⟨rfl,rfl⟩,rfl⟩:=hv
 have hjl:j<cs'.length:=(List.getElem?_eq_some_iff.1 hj).1
 have:=hc' (pc.length+j) u (by rw [List.getElem?_append_right (by omega),show pc.length+j - pc.length=j by omega,List.getElem?_append_left hjl]; exact hj)
 rw [e,← Nat.add_assoc] at this
 exact this
section
variable {P:Program} {Q:Exit→Act→World→Prop} {K:List Value→List Deferred→World→Prop} {fr fr':List Value} {ds:List Deferred} {w:World}
variable {dst:Option Tmp} {ty:TypeId} {pos:String} {after:Array Edge} {g:Option (Nat×Bool)}
variable {w0:World} {rs rs':List Res} {μ μ':M}
variable {T:TypeId}
end
end Go.Xt
namespace Go.Xt
open Go.Wk Go.RowKit
section
variable {P:Program} {Q:Exit→Act→World→Prop} {K:List Value→List Deferred→World→Prop} {fr fr':List Value} {ds:List Deferred} {w:World}
variable {dst:Option Tmp} {ty:TypeId} {pos:String} {after:Array Edge} {g:Option (Nat×Bool)}
end
end Go.Xt
namespace Go.Xt
open Go.Wk Go.RowKit
def vOf (agg:Bool) (cs:List Value):Value:=if agg then .agg ⟨cs⟩ else cs.headD undef
structure FnOk (P:Program) (μ0:M) (K:Nat) (caps:List Value) {α:Type} [Mo α] (agg:Bool) (pf:α→Option Bool):Prop where
 isfn:IsFn P K
 call:∀ {μ1:M} {w0 w1:World} {rs:List Res} {x:α} {b:Bool} {cs:List Value},Le μ0 μ1→Mo.cs μ1 cs x→pf x=some b→Sq μ1 w0 w1 rs→CallsV P K ([vOf agg cs]++caps) w1 (fun v w'=>∃ μ2,v=.bool b∧Le μ1 μ2∧Sq μ2 w0 w' rs)
theorem FnOk.up {P:Program} {μ μ':M} {K:Nat} {caps:List Value} {α:Type} [Mo α] {agg:Bool} {pf:α→Option Bool} (h:FnOk P μ K caps agg pf) (l:Le μ μ'):FnOk P μ' K caps agg pf:=⟨h.isfn,fun hl=>h.call (l.t hl)⟩
end Go.Xt
namespace Go.Xt
open Go.Wk Go.RowKit
instance:Mo UInt8 where
 sz:=1
 pos:=by decide
 cs _ l x:=l=[.int .u8 x.toNat]
 ln h:=by rw [h]; rfl
 up _ h:=h
 cv h:=by rw [h]; rfl
def scont (l sub:List UInt8):Option Bool:=if l.length<4294967281 then some (Lib.contains l sub) else none
end Go.Xt
namespace Go.Xt
open Go.Wk Go.RowKit
section
variable {μ ν:M} {w0 w w':World} {rs:List Res} {T:TypeId}
def OldW (w:World) (ν:M):Prop:=∀ w',ν w'→w.heap.size≤w'.heap.size∧∀ k,k<w.heap.size→w'.heap[k]?=w.heap[k]?
theorem _root_.Go.Wk.Sep.borrow (h:Sq μ w0 w rs):∃ ν,Le μ ν∧Sq ν w w []∧OldW w ν:=by
 refine ⟨fun w'=>μ w'∧(w.heap.size≤w'.heap.size∧∀ k,k<w.heap.size→w'.heap[k]?=w.heap[k]?),fun _ hw=>hw.1,Sep.start w _ _ ?_,fun _ hw=>hw.2⟩
 intro w' h1 h2
 exact ⟨h.imm w' h1 fun k hk _=>h2 k hk trivial,h1,fun k hk=>h2 k hk trivial⟩
theorem _root_.Go.Wk.Sep.back {ν':M} (h:Sq μ w0 w rs) (hO:OldW w ν) (hle:Le ν ν') (hB:Sq ν' w w' []):Sq μ w0 w' rs :=
 h.grow ⟨hB.keeps.os,hB.keeps.tape,hB.keeps.output,hB.keeps.size,fun k hk _=>(hO w' (hle _ hB.a)).2 k hk⟩
theorem OldW.holds {r:Res} (hO:OldW w ν) (h:r.holds w) (hw:ν w'):r.holds w':=holds_of h fun b hb=>(hO w' hw).2 b (holds_block h hb)
theorem _root_.Go.Wk.Row.shape {v:Value} {sz n:Nat} {xs:List Value} (h:Row w v T sz n xs):∃ a c,v=.slice a n c:=by
 rcases h.2 with ⟨rfl,rfl⟩ | ⟨g,o,cap,cur,rfl,-⟩
 ·exact ⟨_,_,rfl⟩
 ·exact ⟨_,_,rfl⟩
theorem _root_.Go.Wk.Row.rd {α:Type} [Mo α] {a:Option Addr} {c:Nat} {cells:List Value} {l:List α} (hO:OldW w ν) (hle:Le μ ν) (h:Row w (.slice a l.length c) T (Mo.sz α) l.length cells) (hr:Rw μ cells l):Sl ν a c l:=by
 have hh:∀ w',ν w'→Row w' (.slice a l.length c) T (Mo.sz α) l.length cells:=fun w' hw=>hO.holds (r:=.row (.slice a l.length c) T (Mo.sz α) l.length cells) h hw
 rcases h.2 with ⟨e,h0⟩ | ⟨g,o,cap,cur,e,hg,h1,h2,h3,h4⟩
 ·obtain rfl:=List.eq_nil_of_length_eq_zero h0
  obtain ⟨rfl,-,rfl⟩:=Value.slice.inj e
  exact Sl.nil
 ·obtain ⟨rfl,-,rfl⟩:=Value.slice.inj e
  refine ⟨h1,h2,.inr ⟨g,o,rfl,fun i=>(cells.drop (i*Mo.sz α)).take (Mo.sz α),fun i x hx=>⟨?_,Mo.up hle (hr.get hx)⟩⟩⟩
  intro w2 hw2 j u hj
  have hpos:0<l.length:=by have:=(List.getElem?_eq_some_iff.1 hx).1; omega
  obtain ⟨b,o',c,hv,hc⟩:=(hh w2 hw2).some' hpos
  simp at hv
  obtain ⟨⟨rfl,rfl⟩,rfl⟩:=hv
  have hjl:j<Mo.sz α:=by
   have:=(List.getElem?_eq_some_iff.1 hj).1
   simp at this; omega
  rw [List.getElem?_take_of_lt hjl,List.getElem?_drop] at hj
  have:=hc _ u hj
  rw [← Nat.add_assoc] at this
  exact this
theorem _root_.Go.Wk.Blk.rd {b:Nat} {cells:List Value} (hO:OldW w ν) (h:Blk w b T cells):At ν b 0 cells:=fun w' hw=>Blk.cells (hO.holds (r:=.blk b T cells) h hw)
def del_ {α:Type} (l:List α) (i j:Int):Option (List α):=if 0≤i∧i≤j∧j≤l.length then some (l.take i.toNat++l.drop j.toNat) else none
theorem del_eq {α:Type} {l l':List α} {i j:Int} (h:del_ l i j=some l'):(0≤i∧i≤j∧j≤l.length)∧l'=l.take i.toNat++l.drop j.toNat:=by
 unfold del_ at h
 split at h
 ·rename_i c; exact ⟨c,(Option.some.inj h).symm⟩
 ·cases h
theorem frozen_row {w:World} {g o:Nat} {cur:Array Value} {T:TypeId} (hg:w.heap[g]?=some (.cells cur T (0,0))):w.frozen? ⟨g,o,none⟩=false:=by
 simp [World.frozen?,hg]
theorem getElem?_putCells {α:Type} [Inhabited α] (enc:α→Value) (off:Nat) (d:Array α) (c:Array Value) (k:Nat):(Go.Sort.putCells enc off d c)[k]?=(c[k]?).map fun x=>if off≤k∧k<off+d.size then enc d[k - off]! else x:=by
 unfold Go.Sort.putCells
 rw [Array.getElem?_mapIdx]
theorem row_del {w:World} {g o cap:Nat} {l:List (List UInt8)} {T:TypeId} {i j:Nat} {q:Nat} (h:Row w (.slice (some ⟨g,o,none⟩) l.length cap) T 1 l.length (l.map S)) (hij:i≤j) (hj:j≤l.length) :
  Row (Go.Sort.putRow (fun x:List UInt8=>S x) (Go.Sort.ahead w q) g o (l.take i++l.drop j++List.replicate (j - i) []).toArray) (.slice (some ⟨g,o,none⟩) (l.take i++l.drop j).length cap) T 1 (l.take i++l.drop j).length ((l.take i++l.drop j).map S) ∧
  Keeps (fun b=>b≠g) w (Go.Sort.putRow (fun x:List UInt8=>S x) (Go.Sort.ahead w q) g o (l.take i++l.drop j++List.replicate (j - i) []).toArray):=by
 rcases h.2 with ⟨e,-⟩ | ⟨g',o',cap',cur,e,hg,h1,h2,h3,h4⟩
 ·cases e
 ·cases e
  have len:(l.take i++l.drop j).length=l.length - (j - i):=by simp; omega
  constructor
  ·refine ⟨by simp,.inr ⟨g,o,cap,Go.Sort.putCells (fun x:List UInt8=>S x) o (l.take i++l.drop j++List.replicate (j - i) []).toArray cur,rfl,?_,by omega,h2,?_,?_⟩⟩
   ·simp only [Go.Sort.putRow,Go.Sort.mapBlock,Go.Sort.ahead,Array.getElem?_modify]
    rw [if_pos trivial,hg]
    rfl
   ·simp [Go.Sort.putCells]; omega
   ·apply List.ext_getElem?
    intro k
    rw [List.getElem?_take,Nat.mul_one]
    by_cases c:k<(l.take i++l.drop j).length
    ·rw [if_pos c,List.getElem?_drop,Array.getElem?_toList,getElem?_putCells]
     have hs:o+k<cur.size:=by omega
     rw [Array.getElem?_eq_getElem hs]
     simp only [Option.map_some]
     have c2:k<(l.take i++l.drop j++List.replicate (j - i) ([]:List UInt8)).length:=by rw [List.length_append]; omega
     rw [if_pos ⟨by omega,by simp only [List.size_toArray]; omega⟩,List.getElem?_map,List.getElem?_eq_getElem c]
     have e:o+k - o=k:=by omega
     rw [e]
     simp only [Option.map_some]
     congr 2
     rw [getElem!_pos _ k (by simpa using c2)]
     simp only [List.getElem_toArray]
     rw [List.getElem_append_left c]
    ·rw [if_neg c,List.getElem?_eq_none (by simpa using c)]
  ·refine ⟨rfl,rfl,rfl,by simp [Go.Sort.putRow,Go.Sort.mapBlock,Go.Sort.ahead],fun k hk hne=>?_⟩
   simp only [Go.Sort.putRow,Go.Sort.mapBlock,Go.Sort.ahead,Array.getElem?_modify]
   rw [if_neg fun h=>hne h.symm]
def appN {α:Type} (B:Nat) (l:List α) (xs:List α):Option (List α):=if l.length+xs.length≤B then some (l++xs) else none
theorem appN_eq {α:Type} {B:Nat} {a b c:List α} (h:appN B a b=some c):c=a++b∧a.length+b.length≤B:=by
 unfold appN at h
 split at h
 ·rename_i k; exact ⟨(Option.some.inj h).symm,k⟩
 ·cases h
theorem Rw.appN {α:Type} [Mo α] {B:Nat} {cells news:List Value} {l xs l':List α} (h:Rw μ cells l) (k:Rw μ news xs) (g:appN B l xs=some l'):Rw μ (cells++news) l':=by
 obtain ⟨rfl,-⟩:=appN_eq g
 exact Rw.cat k h
end
section
variable {P:Program} {Q:Exit→Act→World→Prop} {K:List Value→List Deferred→World→Prop} {fr fr':List Value} {ds:List Deferred} {w w':World}
variable {dst:Option Tmp} {ty:TypeId} {pos:String} {after:Array Edge} {g:Option (Nat×Bool)} {T:TypeId} {ag:Bool} {zc:List Value} {rs rs':List Res} {μ:M} {w0:World}
theorem s_app1N {α:Type} [Mo α] {B:Nat} {t:TypeId} {s x:Operand} {v:Value} {bytes k b mm c:Nat} {cells news:List Value} {l ys l':List α} (ht:P.underlying t=some (.slice T)) (hE:TI P T ag zc (Mo.sz α) bytes) (hz:zc.length=Mo.sz α)
  (hs:Ev fr s v) (hx:Ev fr x (.slice (some ⟨b,0,none⟩) mm c)) (hS:Sq μ w0 w rs) (hl:Lk rs k (.row v T (Mo.sz α) l.length cells)) (hnews:CellsAt w b 0 news) (hr:Rw μ news ys) (hm:ys.length=mm) (gg:appN B l ys=some l') (hb:B*bytes≤140737488355328∧B≤9223372036854775807)
  (h:∀ v' w' rs',Pt rs k (.row v' T (Mo.sz α) l'.length (cells++news)) rs'→Sq μ w0 w' rs'→Put fr dst v' fun fr'=>K fr' ds w') :
  OW P (Oper.mk dst (.call { callee:=.builtin .append,args:=#[s,x],argTypes:=#[t,t] }) ty pos after g) fr ds w K Q:=by
 obtain ⟨rfl,h2⟩:=appN_eq gg
 subst hm
 have hbytes:(l.length+ys.length)*bytes≤140737488355328:=Nat.le_trans (Nat.mul_le_mul_right _ h2) hb.1
 obtain ⟨v',w',hr',hrow,hk,hv⟩:=run_append_row (P:=P) (ty:=ty) ht hE hz Mo.pos (hS.get hl) (a:=⟨b,0,none⟩) (c:=c) hr.len (fun j u hu=>by rw [add_addr]; exact hnews j u hu) (fun u hu=>cell_one (List.all_eq_true.1 hr.cv u hu)) (by unfold maxLen; omega) hbytes
 obtain ⟨fr',hd⟩:=dt_ex fr dst v'
 have hlen:(l++ys).length=l.length+ys.length:=List.length_append
 rw [hlen] at h
 refine op_v (v:=v') (w':=w') ?_ hd (h v' w' _ rfl (hS.row hl rfl hrow hk hv) fr' hd)
 have e1:=hs ds
 have e2:=hx ds
 simp [execOp,resolve,invoke,builtin,e1,e2,hr']
end
end Go.Xt
namespace Go.Xt
open Go.Wk Go.RowKit
section
variable {P:Program} {w:World} {T:TypeId} {zc:List Value} {n:Nat}
end
section
variable {P:Program} {Q:Exit→Act→World→Prop} {K:List Value→List Deferred→World→Prop} {fr fr':List Value} {ds:List Deferred} {w:World}
variable {dst:Option Tmp} {ty:TypeId} {pos:String} {after:Array Edge} {g:Option (Nat×Bool)}
variable {w0:World} {rs rs':List Res} {μ μ':M}
variable {T:TypeId}
end
section
variable {P:Program} (w:World)
end
end Go.Xt
namespace Go.Xt
abbrev wd (l:List UInt8) (p:Nat):Nat:=(Utf8.decode ⟨⟨l⟩⟩ p).2
end Go.Xt
namespace Go.Xt
open Go.Wk Go.RowKit
section
variable {P:Program} {Q Q':Exit→Act→World→Prop} {fr fr':List Value} {ds:List Deferred} {w:World} {ops:Array Oper} {y:Code} {id:Nat} {l:List Oper}
theorem nw (h:CW P y Q' fr ds w):WL P ops (Exit.then (Nx P y Q') Q) [] fr ds w:=wnil (xn h)
theorem nz (h:WL P l.toArray (Exit.then (Nx P y Q) Q) l fr ds w):CW P (.seq (.region id l.toArray false) y) Q fr ds w:=cseq (creg h)
theorem nx (h:WL P l.toArray (Exit.then (Nx P y Q') Q') l fr ds w):WL P ops (Exit.then (Nx P (.seq (.region id l.toArray false) y) Q') Q) [] fr ds w:=wnil (xn (cseq (creg h)))
theorem ny {x:Code} (h:CW P x (Exit.then (Nx P y Q') Q') fr ds w):WL P ops (Exit.then (Nx P (.seq x y) Q') Q) [] fr ds w:=wnil (xn (cseq h))
variable {R R':List Nat} {dst:Tmp} {op:Op} {ty:TypeId} {pos:String} {after:Array Edge} {v:Value} {Ns:List Mon} {j d:Nat} {b b':Bool}
theorem fp (i:Nat) (S:List Nat) (he:(decide R.Nodup && enabled ops R i && waits ops R S i && apartF ops S R i && S.contains i,R.erase i,ops[i]?)=(true,R',some ⟨some dst,op,ty,pos,after,none⟩)) (hv:PU P ⟨some dst,op,ty,pos,after,none⟩ fr v) (hp:Pt fr dst v fr') (h:SF P ops Q Ns R' fr' ds w) (hQ:Blind Q:=by first | exact blind_of fun _ _ _ h=>h | exact blind_of fun _ _ _ h=>h.2 | exact blind_of fun _ _ _ h=>h.2.2):SF P ops Q Ns R fr ds w:=sf_pu S hQ (congrArg (·.1) he) (congrArg (·.2.1) he) (congrArg (·.2.2) he) hv hp h
theorem fpY (i:Nat) (S:List Nat) (he:(decide R.Nodup && enabled ops R i && waits ops R S i && apartF ops S R i && S.contains i,R.erase i,ops[i]?)=(true,R',some ⟨some dst,op,ty,pos,after,some (j,b)⟩)) (hj:(ops[j]?).bind (·.dst)=some d) (hl:Lk fr d (.bool b)) (hv:PU P ⟨some dst,op,ty,pos,after,some (j,b)⟩ fr v) (hp:Pt fr dst v fr') (h:SF P ops Q Ns R' fr' ds w) (hQ:Blind Q:=by first | exact blind_of fun _ _ _ h=>h | exact blind_of fun _ _ _ h=>h.2 | exact blind_of fun _ _ _ h=>h.2.2):SF P ops Q Ns R fr ds w:=sf_puY S hQ (congrArg (·.1) he) (congrArg (·.2.1) he) (congrArg (·.2.2) he) hj hl hv hp h
theorem fpN (i:Nat) (S:List Nat) (he:(decide R.Nodup && enabled ops R i && waits ops R S i && apartF ops S R i && S.contains i,R.erase i,ops[i]?)=(true,R',some ⟨some dst,op,ty,pos,after,some (j,b)⟩)) (hj:(ops[j]?).bind (·.dst)=some d) (hl:Lk fr d (.bool b')) (hb:(b' == b)=false) (hp:Pt fr dst undef fr') (h:SF P ops Q Ns R' fr' ds w) (hQ:Blind Q:=by first | exact blind_of fun _ _ _ h=>h | exact blind_of fun _ _ _ h=>h.2 | exact blind_of fun _ _ _ h=>h.2.2):SF P ops Q Ns R fr ds w:=sf_puN S hQ (congrArg (·.1) he) (congrArg (·.2.1) he) (congrArg (·.2.2) he) hj hl hb hp h
theorem fr_ (i:Nat) (S:List Nat) (he:(decide R.Nodup && enabled ops R i && waits ops R S i && apartF ops S R i && S.contains i,R.erase i,ops[i]?)=(true,R',some ⟨some dst,op,ty,pos,after,none⟩)) (hv:LU P ⟨some dst,op,ty,pos,after,none⟩ fr w v) (hp:Pt fr dst v fr') (h:SF P ops Q ((S,fun w'=>LU P ⟨some dst,op,ty,pos,after,none⟩ fr w' v)::Ns) R' fr' ds w) (hQ:Blind Q:=by first | exact blind_of fun _ _ _ h=>h | exact blind_of fun _ _ _ h=>h.2 | exact blind_of fun _ _ _ h=>h.2.2):SF P ops Q Ns R fr ds w:=sf_rd S hQ (congrArg (·.1) he) (congrArg (·.2.1) he) (congrArg (·.2.2) he) hv hp h
theorem fr_Y (i:Nat) (S:List Nat) (he:(decide R.Nodup && enabled ops R i && waits ops R S i && apartF ops S R i && S.contains i,R.erase i,ops[i]?)=(true,R',some ⟨some dst,op,ty,pos,after,some (j,b)⟩)) (hj:(ops[j]?).bind (·.dst)=some d) (hl:Lk fr d (.bool b)) (hv:LU P ⟨some dst,op,ty,pos,after,some (j,b)⟩ fr w v) (hp:Pt fr dst v fr') (h:SF P ops Q ((S,fun w'=>LU P ⟨some dst,op,ty,pos,after,some (j,b)⟩ fr w' v)::Ns) R' fr' ds w) (hQ:Blind Q:=by first | exact blind_of fun _ _ _ h=>h | exact blind_of fun _ _ _ h=>h.2 | exact blind_of fun _ _ _ h=>h.2.2):SF P ops Q Ns R fr ds w:=sf_rdY S hQ (congrArg (·.1) he) (congrArg (·.2.1) he) (congrArg (·.2.2) he) hj hl hv hp h
end
class Lki (l:List Value) (n:Nat) (v:outParam Value):Prop where out:Lk l n v
instance {v:Value} {l:List Value}:Lki (v::l) 0 v:=⟨rfl⟩
instance {a v:Value} {l:List Value} {n:Nat} [h:Lki l n v]:Lki (a::l) (n+1) v:=⟨h.out⟩
instance (priority:=2000) {c0 c1 c2 c3 c4 c5 c6 c7 c8 c9 v:Value} {l:List Value} {n:Nat} [h:Lki l n v]:Lki (c0::c1::c2::c3::c4::c5::c6::c7::c8::c9::l) (n+10) v:=⟨h.out⟩
class Pti (l:List Value) (n:Nat) (v:Value) (l':outParam (List Value)):Prop where out:Pt l n v l'
instance {a v:Value} {l:List Value}:Pti (a::l) 0 v (v::l):=⟨rfl⟩
instance {a v:Value} {l l':List Value} {n:Nat} [h:Pti l n v l']:Pti (a::l) (n+1) v (a::l'):=⟨congrArg (a::·) h.out⟩
instance (priority:=2000) {c0 c1 c2 c3 c4 c5 c6 c7 c8 c9 v:Value} {l l':List Value} {n:Nat} [h:Pti l n v l']:Pti (c0::c1::c2::c3::c4::c5::c6::c7::c8::c9::l) (n+10) v (c0::c1::c2::c3::c4::c5::c6::c7::c8::c9::l'):=⟨congrArg (c0::c1::c2::c3::c4::c5::c6::c7::c8::c9::·) h.out⟩
class Evi (fr:List Value) (x:Operand) (v:outParam Value):Prop where out:Ev fr x v
instance {fr:List Value} {n:Nat} {v:Value} [h:Lki fr n v]:Evi fr (.tmp n) v:=⟨et h.out⟩
instance {fr:List Value} {v:Value}:Evi fr (.const v) v:=⟨ec⟩
class Pui (P:Program) (op:Op) (fr:List Value) (v:outParam Value):Prop where out:∀ dst ty pos after g,PU P (Oper.mk dst op ty pos after g) fr v
section
variable {P:Program} {fr:List Value} {x y c:Operand} {v:Value} {t t':TypeId} {k:IntKind} {a b:Int}
instance [h:Evi fr x v]:Pui P (.move x) fr v:=⟨fun _ _ _ _ _=>u_move h.out⟩
instance [h:Evi fr x v]:Pui P (.assign x) fr v:=⟨fun _ _ _ _ _=>u_assign h.out⟩
instance {a:Addr} [h:Evi fr x (.pointer (some a))]:Pui P (.nilCheck x) fr (.pointer (some a)):=⟨fun _ _ _ _ _=>u_nilck h.out⟩
instance [hx:Evi fr x (.int k a)] [hy:Evi fr y (.int k b)]:Pui P (.binOp .eql t x y t') fr (.bool (decide (a=b))):=⟨fun _ _ _ _ _=>u_eqi hx.out hy.out⟩
instance [hx:Evi fr x (.int k a)] [hy:Evi fr y (.int k b)]:Pui P (.binOp .neq t x y t') fr (.bool (decide (a≠b))):=⟨fun _ _ _ _ _=>u_nei hx.out hy.out⟩
instance [hx:Evi fr x (.int k a)] [hy:Evi fr y (.int k b)]:Pui P (.binOp .lss t x y t') fr (.bool (decide (a<b))):=⟨fun _ _ _ _ _=>u_lss hx.out hy.out⟩
instance [hx:Evi fr x (.int k a)] [hy:Evi fr y (.int k b)]:Pui P (.binOp .leq t x y t') fr (.bool (decide (a≤b))):=⟨fun _ _ _ _ _=>u_leq hx.out hy.out⟩
instance [hx:Evi fr x (.int k a)] [hy:Evi fr y (.int k b)]:Pui P (.binOp .gtr t x y t') fr (.bool (decide (b<a))):=⟨fun _ _ _ _ _=>u_gtr hx.out hy.out⟩
instance [hx:Evi fr x (.int k a)] [hy:Evi fr y (.int k b)]:Pui P (.binOp .geq t x y t') fr (.bool (decide (b≤a))):=⟨fun _ _ _ _ _=>u_geq hx.out hy.out⟩
end
section
variable {P:Program} {Q:Exit→Act→World→Prop} {fr fr':List Value} {ds:List Deferred} {w:World} {ops:Array Oper} {rest:List Oper} {d:Tmp} {op:Op} {ty:TypeId} {pos:String} {after:Array Edge} {v:Value}
theorem st [hu:Pui P op fr v] [hp:Pti fr d v fr'] (h:WL P ops Q rest fr' ds w):WL P ops Q (⟨some d,op,ty,pos,after,none⟩::rest) fr ds w:=wl (su (hu.out _ _ _ _ _) (dt hp.out) h)
end
class Evsi (fr:List Value) (xs:List Operand) (vs:outParam (List Value)):Prop where out:Evs fr xs vs
instance {fr:List Value}:Evsi fr [] []:=⟨e0⟩
instance {fr:List Value} {x:Operand} {v:Value} {xs:List Operand} {vs:List Value} [h:Evi fr x v] [k:Evsi fr xs vs]:Evsi fr (x::xs) (v::vs):=⟨e1 h.out k.out⟩
section
variable {P:Program} {fr:List Value} {x y c:Operand} {v:Value} {t t' T:TypeId} {b:Nat} {o off i:Nat} {vs:List Value} {q:Bool}
instance [hF:FA P T i off] [h:Evi fr x (.pointer (some ⟨b,o,none⟩))]:Pui P (.fieldAddr T x i) fr (.pointer (some ⟨b,o+off,none⟩)):=⟨fun _ _ _ _ _=>u_fa hF h.out rfl⟩
instance [hc:Evi fr c (.bool true)] [h:Evi fr x v]:Pui P (.pick c x y) fr v:=⟨fun _ _ _ _ _=>u_pickt hc.out h.out⟩
instance [hc:Evi fr c (.bool false)] [h:Evi fr y v]:Pui P (.pick c x y) fr v:=⟨fun _ _ _ _ _=>u_pickf hc.out h.out⟩
instance [h:Evi fr x (.bool q)]:Pui P (.unOp .not t x) fr (.bool (!q)):=⟨fun _ _ _ _ _=>u_not h.out⟩
instance [h:Evi fr x (.tuple ⟨vs⟩)] [k:Lki vs i v]:Pui P (.extract x i) fr v:=⟨fun _ _ _ _ _=>u_extr h.out k.out⟩
end
section
variable {P:Program} {Q:Exit→Act→World→Prop} {fr fr':List Value} {ds:List Deferred} {w:World} {ops:Array Oper} {rest:List Oper} {d:Tmp} {op:Op} {ty:TypeId} {pos:String} {after:Array Edge} {v:Value} {j e:Nat} {b b':Bool}
theorem sy [hu:Pui P op fr v] [hp:Pti fr d v fr'] (hj:(ops[j]?).bind (·.dst)=some e) [hl:Lki fr e (.bool b)] (h:WL P ops Q rest fr' ds w):WL P ops Q (⟨some d,op,ty,pos,after,some (j,b)⟩::rest) fr ds w:=wy hj hl.out (su (hu.out _ _ _ _ _) (dt hp.out) h)
theorem sn [hp:Pti fr d undef fr'] (hj:(ops[j]?).bind (·.dst)=some e) [hl:Lki fr e (.bool b')] (hb:(b' == b)=false) (h:WL P ops Q rest fr' ds w):WL P ops Q (⟨some d,op,ty,pos,after,some (j,b)⟩::rest) fr ds w:=wn hj hl.out hb (dt hp.out) h
theorem ld {T:TypeId} {zc:List Value} {n m o q:Nat} {x:Operand} [hT:TI P T false zc n m] (hc:w.cell? ⟨q,o,none⟩=some v) [hx:Evi fr x (.pointer (some ⟨q,o,none⟩))] [hp:Pti fr d v fr'] (h:WL P ops Q rest fr' ds w):WL P ops Q (⟨some d,.load T x,ty,pos,after,none⟩::rest) fr ds w:=wl (s_load hT hx.out hc (dt hp.out) h)
theorem lds {T:TypeId} {zc cs:List Value} {n m o q:Nat} {x:Operand} [hT:TI P T true zc n m] (hc:CellsAt w q o cs) (hn:cs.length=n) [hx:Evi fr x (.pointer (some ⟨q,o,none⟩))] [hp:Pti fr d (.agg ⟨cs⟩) fr'] (h:WL P ops Q rest fr' ds w):WL P ops Q (⟨some d,.load T x,ty,pos,after,none⟩::rest) fr ds w:=wl (s_loads hT hx.out hc hn (dt hp.out) h)
theorem ca {dst:Option Tmp} {xs:List Operand} {tys:Array TypeId} {k:FuncId} {vs:List Value} {R:Value→World→Prop} [hk:IsFn P k] [hs:Evsi fr xs vs] (hc:CallsV P k vs w R) (h:∀ v w',R v w'→Put fr dst v fun fr'=>WL P ops Q rest fr' ds w') :
  WL P ops Q (⟨dst,.call { callee:=.value (.func k),args:=⟨xs⟩,argTypes:=tys },ty,pos,after,none⟩::rest) fr ds w:=wl (s_callv hk ef hs.out hc h)
theorem cdw {id:Nat} {l:List Oper} {μ:M} {w0:World} {rs:List Res} (hS:Sq μ w0 w rs) (h:∀ w',Sq μ w0 w' rs→SC P l.toArray Q (List.range l.length) fr ds w') (hm:P.follows .mixedOrders=true:=by kernel_rfl) (hlow:(List.range l.toArray.size).all (fun i=>(deps l.toArray i).all fun j=>decide (j<i))=true:=by rfl):CW P (.region id l.toArray true) Q fr ds w :=
 cdraw hm hlow fun w' h1 h2 h3 h4=>h w' (hS.drew h1 h2 h3 h4)
theorem po {v:Value} {K:List Value→Prop} [hp:Pti fr d v fr'] (h:K fr'):Put fr (some d) v K:=pu (dt hp.out) h
theorem fpi {Ns:List Mon} {R R':List Nat} (i:Nat) (S:List Nat) (he:(decide R.Nodup && enabled ops R i && waits ops R S i && apartF ops S R i && S.contains i,R.erase i,ops[i]?)=(true,R',some ⟨some d,op,ty,pos,after,none⟩)) [hv:Pui P op fr v] [hp:Pti fr d v fr'] (h:SF P ops Q Ns R' fr' ds w) (hQ:Blind Q:=by first | exact blind_of fun _ _ _ h=>h | exact blind_of fun _ _ _ h=>h.2 | exact blind_of fun _ _ _ h=>h.2.2):SF P ops Q Ns R fr ds w :=
 fp i S he (hv.out _ _ _ _ _) hp.out h hQ
end
section
variable {rs rs':List Res} {a1 a2 a3 a4 a5 a6 a7 a8 a9 a10 a11 a12 r:Res}
theorem Y1:Bg (a1::r::rs) 1 (r::a1::rs):=.s (Bg.z)
theorem Y2:Bg (a1::a2::r::rs) 2 (r::a1::a2::rs):=.s (.s (Bg.z))
theorem Y3:Bg (a1::a2::a3::r::rs) 3 (r::a1::a2::a3::rs):=.s (.s (.s (Bg.z)))
theorem Y4:Bg (a1::a2::a3::a4::r::rs) 4 (r::a1::a2::a3::a4::rs):=.s (.s (.s (.s (Bg.z))))
theorem Y5:Bg (a1::a2::a3::a4::a5::r::rs) 5 (r::a1::a2::a3::a4::a5::rs):=.s (.s (.s (.s (.s (Bg.z)))))
theorem Y6:Bg (a1::a2::a3::a4::a5::a6::r::rs) 6 (r::a1::a2::a3::a4::a5::a6::rs):=.s (.s (.s (.s (.s (.s (Bg.z))))))
theorem Y7:Bg (a1::a2::a3::a4::a5::a6::a7::r::rs) 7 (r::a1::a2::a3::a4::a5::a6::a7::rs):=.s (.s (.s (.s (.s (.s (.s (Bg.z)))))))
end
section
variable {P:Program} {Q:Exit→Act→World→Prop} {fr frt frf:List Value} {ds:List Deferred} {w:World} {ops:Array Oper} {l:List Oper} {R:List Nat} {Ns:List Mon} {c:Operand} {x y:Code} {p:Prop} [Decidable p] {b:Bool} {d:Nat} {α:Type} {A B:Option α} {r:α}
theorem zCd (h:(if p then A else B)=some r) [hc:Evi fr c (.bool (decide p))] (h1:p→A=some r→CW P x Q fr ds w) (h2:¬ p→B=some r→CW P y Q fr ds w):CW P (.cond c x y) Q fr ds w:=cifd hc.out (fun q=>h1 q (iT q h)) (fun q=>h2 q (iF q h))
theorem zCb (h:(if b=true then A else B)=some r) [hc:Evi fr c (.bool b)] (h1:b=true→A=some r→CW P x Q fr ds w) (h2:¬ b=true→B=some r→CW P y Q fr ds w):CW P (.cond c x y) Q fr ds w:=cifb hc.out (fun q=>h1 q (iT q h)) (fun q=>h2 q (iF q h))
theorem zCe (h:(if b=true then A else B)=some r) [hc:Evi fr c (.bool (!b))] (h1:¬ b=true→B=some r→CW P x Q fr ds w) (h2:b=true→A=some r→CW P y Q fr ds w):CW P (.cond c x y) Q fr ds w:=cifnb hc.out (fun q=>h1 q (iF q h)) (fun q=>h2 q (iT q h))
theorem zWd (d:Nat) (h:(if p then A else B)=some r) [hl:Lki fr d (.bool (decide p))] [ht:Pti fr d (.bool true) frt] [hf:Pti fr d (.bool false) frf] (h1:p→A=some r→WL P ops Q l frt ds w) (h2:¬ p→B=some r→WL P ops Q l frf ds w):WL P ops Q l fr ds w:=wspd hl.out ht.out hf.out (fun q=>h1 q (iT q h)) (fun q=>h2 q (iF q h))
theorem zWb (d:Nat) (h:(if b=true then A else B)=some r) [hl:Lki fr d (.bool b)] [ht:Pti fr d (.bool true) frt] [hf:Pti fr d (.bool false) frf] (h1:b=true→A=some r→WL P ops Q l frt ds w) (h2:¬ b=true→B=some r→WL P ops Q l frf ds w):WL P ops Q l fr ds w:=wspb hl.out ht.out hf.out (fun q=>h1 q (iT q h)) (fun q=>h2 q (iF q h))
theorem zWe (d:Nat) (h:(if b=true then A else B)=some r) [hl:Lki fr d (.bool (!b))] [ht:Pti fr d (.bool true) frt] [hf:Pti fr d (.bool false) frf] (h1:¬ b=true→B=some r→WL P ops Q l frt ds w) (h2:b=true→A=some r→WL P ops Q l frf ds w):WL P ops Q l fr ds w:=wspnb hl.out ht.out hf.out (fun q=>h1 q (iF q h)) (fun q=>h2 q (iT q h))
theorem zFd (d:Nat) (h:(if p then A else B)=some r) [hl:Lki fr d (.bool (decide p))] [ht:Pti fr d (.bool true) frt] [hf:Pti fr d (.bool false) frf] (h1:p→A=some r→SF P ops Q Ns R frt ds w) (h2:¬ p→B=some r→SF P ops Q Ns R frf ds w):SF P ops Q Ns R fr ds w:=sfsd hl.out ht.out hf.out (fun q=>h1 q (iT q h)) (fun q=>h2 q (iF q h))
theorem zFb (d:Nat) (h:(if b=true then A else B)=some r) [hl:Lki fr d (.bool b)] [ht:Pti fr d (.bool true) frt] [hf:Pti fr d (.bool false) frf] (h1:b=true→A=some r→SF P ops Q Ns R frt ds w) (h2:¬ b=true→B=some r→SF P ops Q Ns R frf ds w):SF P ops Q Ns R fr ds w:=sfs hl.out ht.out hf.out (fun q=>h1 q (iT q h)) (fun q=>h2 q (iF q h))
end
abbrev u1 (l:List Value):List Value:=undef::l
abbrev u2 (l:List Value):List Value:=undef::undef::l
abbrev u5 (l:List Value):List Value:=undef::undef::undef::undef::undef::l
abbrev u10 (l:List Value):List Value:=undef::undef::undef::undef::undef::undef::undef::undef::undef::undef::l
abbrev u20 (l:List Value):List Value:=undef::undef::undef::undef::undef::undef::undef::undef::undef::undef::undef::undef::undef::undef::undef::undef::undef::undef::undef::undef::l
abbrev u50 (l:List Value):List Value:=undef::undef::undef::undef::undef::undef::undef::undef::undef::undef::undef::undef::undef::undef::undef::undef::undef::undef::undef::undef::undef::undef::undef::undef::undef::undef::undef::undef::undef::undef::undef::undef::undef::undef::undef::undef::undef::undef::undef::undef::undef::undef::undef::undef::undef::undef::undef::undef::undef::undef::l
end Go.Xt
namespace Go.Xt
theorem oI {α : Type} {a b : α} (h : some a = some b) : a = b := Option.some.inj h
abbrev rg : Nat → Nat → List Nat := fun a b => List.range' a b
end Go.Xt
