/- The shelf: texts of Xu. -/
import Derived.Test.YtaenlbapejigbaaGreatDoorCXt
import Derived.Laws.MakeOwn
import Derived.Laws.CopyRow
import Derived.Laws.IdiomCopy
import Derived.Lib.AppendZeros
import Derived.Shelf.Strconv.ParseIntPublic10
import Derived.Lib.IndexMore
set_option linter.unusedSimpArgs false
set_option linter.unusedVariables false
set_option linter.unusedSectionVars false
namespace Go.Xt
open Go.Wk Go.RowKit
theorem Rw.split {α:Type} [Mo α] {μ:M}:∀ {l:List α} {cells:List Value} {i:Nat} {x:α},Rw μ cells l→l[i]?=some x →
  ∃ pc cs sc,cells=pc++(cs++sc)∧pc.length=i*Mo.sz α∧Mo.cs μ cs x∧∀ (μ':M) (cs':List Value) (x':α),Le μ μ'→Mo.cs μ' cs' x'→Rw μ' (pc++(cs'++sc)) (l.set i x')
 | [],cells,i,x,h,hx=>by simp at hx
 | y::l,cells,i,x,h,hx=>by
  rw [Rw] at h
  obtain ⟨cs,t,rfl,h1,h2⟩:=h
  cases i with
  | zero =>
   simp at hx
   subst hx
   exact ⟨[],cs,t,rfl,by simp,h1,fun μ' cs' x' hl h'=>⟨cs',t,rfl,h',h2.up hl⟩⟩
  | succ i =>
   simp at hx
   obtain ⟨pc,cs2,sc,rfl,e,m,st⟩:=Rw.split h2 hx
   exact ⟨cs++pc,cs2,sc,by simp,by simp [e,Mo.ln h1,Nat.add_mul]; omega,m,fun μ' cs' x' hl h'=>⟨cs,pc++(cs'++sc),by simp,Mo.up hl h1,st μ' cs' x' hl h'⟩⟩
theorem _root_.Go.Wk.Row.elemS {α:Type} [Mo α] {w:World} {T:TypeId} {n:Nat} {μ:M} {v:Value} {cells:List Value} {l:List α} {i:Int} {x:α} (h:Row w v T (Mo.sz α) n cells) (hr:Rw μ cells l) (hn:l.length=n) (g:at_ l i=some x) :
  ∃ b o pc cs sc,cells=pc++(cs++sc)∧Elv v (Mo.sz α) i b o∧(∀ w T cs',Row w v T (Mo.sz α) n (pc++(cs'++sc))→cs'.length=Mo.sz α→CellsAt w b o cs')∧Mo.cs μ cs x∧pc.length=i.toNat*Mo.sz α ∧
   (∀ (μ':M) (cs':List Value) (x':α),Le μ μ'→Mo.cs μ' cs' x'→Rw μ' (pc++(cs'++sc)) (l.set i.toNat x'))∧Rw μ (pc++(cs++sc)) l:=by
 obtain ⟨h0,h1,h2⟩:=at_eq g
 obtain ⟨b,o,c,rfl,hc⟩:=h.some' (by omega)
 obtain ⟨pc,cs,sc,rfl,e,m,st⟩:=hr.split h2
 refine ⟨b,o+i.toNat*Mo.sz α,pc,cs,sc,rfl,⟨o,_,_,rfl,h0,by omega,rfl⟩,?_,m,e,st,hr⟩
 intro w2 T2 cs' hk hl j u hj
 obtain ⟨b',o',c',hv,hc'⟩:=hk.some' (by omega)
 simp at hv
 obtain ⟨⟨rfl,rfl⟩,rfl⟩:=hv
 have hjl:j<cs'.length:=(List.getElem?_eq_some_iff.1 hj).1
 have:=hc' (pc.length+j) u (by rw [List.getElem?_append_right (by omega),show pc.length+j - pc.length=j by omega,List.getElem?_append_left hjl]; exact hj)
 rw [e,← Nat.add_assoc] at this
 exact this
theorem open_store {pc cs cs' sc vs:List Value} {i off sz:Nat} (pl:pc.length=i*sz) (h:cs.take off++vs++cs.drop (off+vs.length)=cs') (hl:off+vs.length≤cs.length) :
  (pc++(cs++sc)).take (i*sz+off)++vs++(pc++(cs++sc)).drop (i*sz+off+vs.length)=pc++(cs'++sc):=by
 subst h
 rw [← pl,Nat.add_assoc,List.take_append,List.drop_append]
 simp [List.take_append_of_le_length (show off≤cs.length by omega),List.drop_append_of_le_length hl,List.take_of_length_le (show pc.length≤pc.length+off by omega),List.drop_of_length_le (show pc.length≤pc.length+(off+vs.length) by omega)]
section
variable {P:Program} {Q:Exit→Act→World→Prop} {K:List Value→List Deferred→World→Prop} {fr fr':List Value} {ds:List Deferred} {w:World}
variable {dst:Option Tmp} {ty:TypeId} {pos:String} {after:Array Edge} {g:Option (Nat×Bool)}
variable {w0:World} {rs rs':List Res} {μ μ':M}
variable {T:TypeId}
theorem Mq.two {es:List MapEntry} {c:Nat} {k0 k1:List UInt8} {x0 x1:Int} (h:Mq μ es c [(k0,x0),(k1,x1)]) :
  ∃ n0 n1,es=[⟨S k0,.int .i64 x0,n0⟩,⟨S k1,.int .i64 x1,n1⟩]∧n0<n1∧n1<c:=by
 obtain ⟨hkv,hlt,hinc⟩:=h
 match es,hkv,hlt,hinc with
 | [],hkv,_,_=>simp [Es] at hkv
 | [a],hkv,_,_ =>
  rw [Es] at hkv
  obtain ⟨k,x,t,h1,-,-,h4⟩:=hkv
  simp [Es] at h4 h1
  simp [h4] at h1
 | [a,b],hkv,hlt,hinc =>
  rw [Es] at hkv
  obtain ⟨k,x,t,h1,h2,h3,h4⟩:=hkv
  rw [Es] at h4
  obtain ⟨k',x',t',h1',h2',h3',h4'⟩:=h4
  subst h1'
  simp only [List.cons.injEq,Prod.mk.injEq] at h1
  obtain ⟨⟨rfl,rfl⟩,⟨rfl,rfl⟩,-⟩:=h1
  obtain ⟨ak,av,ab⟩:=a
  obtain ⟨bk,bv,bb⟩:=b
  have h3:av=.int .i64 x0:=h3
  have h3':bv=.int .i64 x1:=h3'
  have h2:ak=S k0:=h2
  have h2':bk=S k1:=h2'
  subst h2 h2' h3 h3'
  have h5:ab<bb:=List.rel_of_pairwise_cons hinc (List.mem_singleton.2 rfl)
  have h6:bb<c:=hlt ⟨S k1,.int .i64 x1,bb⟩ (by simp)
  exact ⟨ab,bb,rfl,h5,h6⟩
 | a::b::d::es,hkv,_,_ =>
  rw [Es] at hkv
  obtain ⟨k,x,t,h1,-,-,h4⟩:=hkv
  rw [Es] at h4
  obtain ⟨k',x',t',h1',-,-,h4'⟩:=h4
  rw [Es] at h4'
  obtain ⟨k'',x'',t'',h1'',-,-,-⟩:=h4'
  subst h1'' h1'
  simp at h1
theorem seen_put (w:World) (b:Nat) (o:Obj) (hlt:b<w.heap.size):Keeps (fun k=>k≠b) w { w with heap:=w.heap.setIfInBounds b o }∧({ w with heap:=w.heap.setIfInBounds b o }:World).heap[b]?=some o :=
 ⟨⟨rfl,rfl,rfl,by simp,fun j _ hj=>by simp [Array.getElem?_setIfInBounds,Ne.symm hj]⟩,by simp [hlt]⟩
theorem s_next0 {x:Operand} {b m c ki k n0 n1:Nat} {a0 v0 a1 v1:Value} (hx:Ev fr x (.pointer (some ⟨b,0,none⟩))) (hS:Sq μ w0 w rs) (hi:Lk rs ki (.mit b m c [] c)) (hm:Lk rs k (.map m [⟨a0,v0,n0⟩,⟨a1,v1,n1⟩] c)) (h01:n0<n1) (h1c:n1<c)
  (hA:∀ w' rs',Pt rs ki (.mit b m c [n0] c) rs'→Sq μ w0 w' rs'→Put fr dst (.tuple ⟨[.bool true,a0,v0]⟩) fun fr'=>K fr' ds w')
  (hB:∀ w' rs',Pt rs ki (.mit b m c [n1] c) rs'→Sq μ w0 w' rs'→Put fr dst (.tuple ⟨[.bool true,a1,v1]⟩) fun fr'=>K fr' ds w') :
  OW P (Oper.mk dst (.next x false) ty pos after g) fr ds w K Q:=by
 have hb:w.heap[b]?=some (.mapIter (some m) c ⟨[]⟩ c):=hS.get hi
 have hb2:w.heap[m]?=some (.map ⟨[⟨a0,v0,n0⟩,⟨a1,v1,n1⟩]⟩ c):=hS.get hm
 have hlt:b<w.heap.size:=(Array.getElem?_eq_some_iff.1 hb).1
 have hbd:w.drew.heap[b]?=some (.mapIter (some m) c ⟨[]⟩ c):=hb
 have h0c:n0<c:=by omega
 have hnc:¬ n0 ≥ c:=by omega
 have hnc1:¬ n1 ≥ c:=by omega
 by_cases hd:(w.tape w.drawn (.mapNext 2)) % 2=0
 ·obtain ⟨hk,hh⟩:=seen_put w.drew b (.mapIter (some m) c ⟨[n0]⟩ c) hlt
  obtain ⟨fr',hd'⟩:=dt_ex fr dst (.tuple ⟨[.bool true,a0,v0]⟩)
  refine op_v (w':={ w.drew with heap:=w.drew.heap.setIfInBounds b (.mapIter (some m) c ⟨[n0]⟩ c) }) ?_ hd' (hA _ _ rfl ((hS.drew (w':=w.drew) rfl rfl rfl rfl).put (b:=b) hi rfl rfl rfl hh hk) fr' hd')
  simp [execOp,hx ds,Instr.next,getObj,setObj,Sem.run,hb,hb2,Result.andThen,h0c,h1c,hnc,hnc1,choose,Question.forced,Question.cut,hd,hbd]
 ·have hd1:(w.tape w.drawn (.mapNext 2)) % 2=1:=by omega
  obtain ⟨hk,hh⟩:=seen_put w.drew b (.mapIter (some m) c ⟨[n1]⟩ c) hlt
  obtain ⟨fr',hd'⟩:=dt_ex fr dst (.tuple ⟨[.bool true,a1,v1]⟩)
  refine op_v (w':={ w.drew with heap:=w.drew.heap.setIfInBounds b (.mapIter (some m) c ⟨[n1]⟩ c) }) ?_ hd' (hB _ _ rfl ((hS.drew (w':=w.drew) rfl rfl rfl rfl).put (b:=b) hi rfl rfl rfl hh hk) fr' hd')
  simp [execOp,hx ds,Instr.next,getObj,setObj,Sem.run,hb,hb2,Result.andThen,h0c,h1c,hnc,hnc1,choose,Question.forced,Question.cut,hd1,hbd]
theorem s_next1 {x:Operand} {b m c ki k n0 n1:Nat} {a0 v0 a1 v1:Value} (hx:Ev fr x (.pointer (some ⟨b,0,none⟩))) (hS:Sq μ w0 w rs) (hi:Lk rs ki (.mit b m c [n0] c)) (hm:Lk rs k (.map m [⟨a0,v0,n0⟩,⟨a1,v1,n1⟩] c)) (h01:n0<n1) (h1c:n1<c)
  (hA:∀ w' rs',Pt rs ki (.mit b m c [n0,n1] c) rs'→Sq μ w0 w' rs'→Put fr dst (.tuple ⟨[.bool true,a1,v1]⟩) fun fr'=>K fr' ds w') :
  OW P (Oper.mk dst (.next x false) ty pos after g) fr ds w K Q:=by
 have hb:w.heap[b]?=some (.mapIter (some m) c ⟨[n0]⟩ c):=hS.get hi
 have hb2:w.heap[m]?=some (.map ⟨[⟨a0,v0,n0⟩,⟨a1,v1,n1⟩]⟩ c):=hS.get hm
 have hlt:b<w.heap.size:=(Array.getElem?_eq_some_iff.1 hb).1
 have hnc:¬ n0 ≥ c:=by omega
 have hnc1:¬ n1 ≥ c:=by omega
 have hall:¬ ∀ (i:Nat) (x:i<2),c≤([⟨a0,v0,n0⟩,⟨a1,v1,n1⟩]:List MapEntry)[i].born:=fun h=>by have:=h 0 (by decide); simp at this; omega
 have hne:¬ n1=n0:=by omega
 have hne':¬ n0=n1:=by omega
 obtain ⟨hk,hh⟩:=seen_put w b (.mapIter (some m) c ⟨[n0,n1]⟩ c) hlt
 obtain ⟨fr',hd'⟩:=dt_ex fr dst (.tuple ⟨[.bool true,a1,v1]⟩)
 refine op_v (w':={ w with heap:=w.heap.setIfInBounds b (.mapIter (some m) c ⟨[n0,n1]⟩ c) }) ?_ hd' (hA _ _ rfl (hS.put (b:=b) hi rfl rfl rfl hh hk) fr' hd')
 simp [execOp,hx ds,Instr.next,getObj,setObj,Sem.run,hb,hb2,Result.andThen,h1c,hnc,hnc1,hne,hne',hall,choose,Question.forced]
theorem s_next1' {x:Operand} {b m c ki k n0 n1:Nat} {a0 v0 a1 v1:Value} (hx:Ev fr x (.pointer (some ⟨b,0,none⟩))) (hS:Sq μ w0 w rs) (hi:Lk rs ki (.mit b m c [n1] c)) (hm:Lk rs k (.map m [⟨a0,v0,n0⟩,⟨a1,v1,n1⟩] c)) (h01:n0<n1) (h1c:n1<c)
  (hA:∀ w' rs',Pt rs ki (.mit b m c [n1,n0] c) rs'→Sq μ w0 w' rs'→Put fr dst (.tuple ⟨[.bool true,a0,v0]⟩) fun fr'=>K fr' ds w') :
  OW P (Oper.mk dst (.next x false) ty pos after g) fr ds w K Q:=by
 have hb:w.heap[b]?=some (.mapIter (some m) c ⟨[n1]⟩ c):=hS.get hi
 have hb2:w.heap[m]?=some (.map ⟨[⟨a0,v0,n0⟩,⟨a1,v1,n1⟩]⟩ c):=hS.get hm
 have hlt:b<w.heap.size:=(Array.getElem?_eq_some_iff.1 hb).1
 have h0c:n0<c:=by omega
 have hnc:¬ n0 ≥ c:=by omega
 have hnc1:¬ n1 ≥ c:=by omega
 have hall:¬ ∀ (i:Nat) (x:i<2),c≤([⟨a0,v0,n0⟩,⟨a1,v1,n1⟩]:List MapEntry)[i].born:=fun h=>by have:=h 0 (by decide); simp at this; omega
 have hne:¬ n1=n0:=by omega
 have hne':¬ n0=n1:=by omega
 obtain ⟨hk,hh⟩:=seen_put w b (.mapIter (some m) c ⟨[n1,n0]⟩ c) hlt
 obtain ⟨fr',hd'⟩:=dt_ex fr dst (.tuple ⟨[.bool true,a0,v0]⟩)
 refine op_v (w':={ w with heap:=w.heap.setIfInBounds b (.mapIter (some m) c ⟨[n1,n0]⟩ c) }) ?_ hd' (hA _ _ rfl (hS.put (b:=b) hi rfl rfl rfl hh hk) fr' hd')
 simp [execOp,hx ds,Instr.next,getObj,setObj,Sem.run,hb,hb2,Result.andThen,h0c,hnc,hnc1,hne,hne',hall,choose,Question.forced]
theorem s_next2 {x:Operand} {b m c ki k n0 n1 p q:Nat} {a0 v0 a1 v1:Value} (hx:Ev fr x (.pointer (some ⟨b,0,none⟩))) (hS:Sq μ w0 w rs) (hi:Lk rs ki (.mit b m c [p,q] c)) (hm:Lk rs k (.map m [⟨a0,v0,n0⟩,⟨a1,v1,n1⟩] c)) (h01:n0<n1) (h1c:n1<c) (hpq:p=n0∧q=n1∨p=n1∧q=n0)
  (hd:Dt fr dst (.tuple ⟨[.bool false]⟩) fr') (h:K fr' ds w) :
  OW P (Oper.mk dst (.next x false) ty pos after g) fr ds w K Q:=by
 have hb:w.heap[b]?=some (.mapIter (some m) c ⟨[p,q]⟩ c):=hS.get hi
 have hb2:w.heap[m]?=some (.map ⟨[⟨a0,v0,n0⟩,⟨a1,v1,n1⟩]⟩ c):=hS.get hm
 have hnc:¬ n0 ≥ c:=by omega
 have hnc1:¬ n1 ≥ c:=by omega
 have hall:¬ ∀ (i:Nat) (x:i<2),c≤([⟨a0,v0,n0⟩,⟨a1,v1,n1⟩]:List MapEntry)[i].born:=fun h=>by have:=h 0 (by decide); simp at this; omega
 have hne:¬ n1=n0:=by omega
 have hne':¬ n0=n1:=by omega
 refine op_v (w':=w) ?_ hd h
 rcases hpq with ⟨rfl,rfl⟩ | ⟨rfl,rfl⟩ <;> simp [execOp,hx ds,Instr.next,getObj,setObj,Sem.run,hb,hb2,Result.andThen,hnc,hnc1,hne,hne',hall,choose,Question.forced]
theorem s_entry {x:Operand} {b m c ki k n0 n1:Nat} {a0 v0 a1 v1:Value} {seen:List Nat} {e:MapEntry} (hx:Ev fr x (.pointer (some ⟨b,0,none⟩))) (hS:Sq μ w0 w rs) (hi:Lk rs ki (.mit b m c seen c)) (hm:Lk rs k (.map m [⟨a0,v0,n0⟩,⟨a1,v1,n1⟩] c)) (h01:n0<n1)
  (hs:seen.getLast?=some e.born) (he:e=⟨a0,v0,n0⟩∨e=⟨a1,v1,n1⟩) (hd:Dt fr dst (.tuple ⟨[e.key,e.val]⟩) fr') (h:K fr' ds w) :
  OW P (Oper.mk dst (.entry x) ty pos after g) fr ds w K Q:=by
 have hb:w.heap[b]?=some (.mapIter (some m) c ⟨seen⟩ c):=hS.get hi
 have hb2:w.heap[m]?=some (.map ⟨[⟨a0,v0,n0⟩,⟨a1,v1,n1⟩]⟩ c):=hS.get hm
 have hne:¬ n1=n0:=by omega
 have hne':¬ n0=n1:=by omega
 have hbk:(⟨seen⟩:Array Nat).back?=some e.born:=by rw [← hs]; simp [Array.back?,List.getLast?_eq_getElem?]
 refine op_v (w':=w) ?_ hd h
 rcases he with rfl | rfl <;> simp [execOp,hx ds,Instr.entry,getObj,Sem.run,hb,hb2,Result.andThen,hbk,hne,hne']
end
end Go.Xt
namespace Go.Xt
open Go.Wk Go.RowKit
section
variable {P:Program} {Q:Exit→Act→World→Prop} {K:List Value→List Deferred→World→Prop} {fr fr':List Value} {ds:List Deferred} {w:World}
variable {dst:Option Tmp} {ty:TypeId} {pos:String} {after:Array Edge} {g:Option (Nat×Bool)}
structure CallsDR (P:Program) (f:FuncId) (args:List Value) (w:World) (R:Value→World→Prop):Prop where
 out:CallsD P f ⟨args⟩ .returning w fun e u' w'=>u'=.returning∧okV R e w'
theorem retDr {fn:Func} {R R1:Value→World→Prop} {k:FuncId} {cap vs:List Value} (hk:IsFn P k) (hc:CallsDR P k (vs++cap) w R1) (h:∀ v w',R1 v w'→PostD P fn R .ret (F fr ds) w') :
  PostD P fn R .ret (F fr (⟨.fn (.func k) ⟨cap⟩,⟨vs⟩⟩::ds)) w:=by
 refine ⟨by simp,.func k,⟨cap⟩,k,⟨vs++cap⟩,rfl,?_,?_⟩
 ·have:=hk.out ⟨vs++cap⟩ w
  simp [invoke,this]
 ·refine hc.out.mono fun e u' w' he=>?_
  obtain ⟨rfl,he⟩:=he
  cases e with
  | returned v=>exact h v w' he
  | panicked c=>exact he.elim
  | outgrown=>exact he.elim
theorem eq_ifc {P:Program} {T:TypeId} {ms:Array (String×TypeId)} {v:Value} {b:Bool} (hu:P.underlying T=some (.interface ms)) (hv:(v=.nilIface∧b=true)∨((∃ a c,v=.iface a c)∧b=false)):EqV P 1 T v .nilIface b:=⟨fun d w hd=>by
 cases d with
 | zero=>omega
 | succ d=>rcases hv with ⟨rfl,rfl⟩ | ⟨⟨a,c,rfl⟩,rfl⟩ <;> simp [Op.equalIn,run_underlying hu]⟩
theorem s_eqni {x:Operand} {t t':TypeId} {v:Value} {b:Bool} {ms:Array (String×TypeId)} (hu:P.underlying t=some (.interface ms)) (hx:Ev fr x v) (hv:(v=.nilIface∧b=true)∨((∃ a c,v=.iface a c)∧b=false)) (hp:Dt fr dst (.bool b) fr') (k:K fr' ds w) :
  OW P (Oper.mk dst (.binOp .eql t x (.const .nilIface) t') ty pos after g) fr ds w K Q:=by
 refine su ⟨fun ds w=>?_⟩ hp k
 have h1:=hx ds
 have h2:(F fr ds).eval (.const .nilIface)=.nilIface:=rfl
 have h3:=(eq_ifc hu hv).out Op.maxDepth w (by decide)
 rcases hv with ⟨rfl,rfl⟩ | ⟨⟨a,c,rfl⟩,rfl⟩ <;> simp [execOp,h1,h2,eqGuard,binOp,Op.equal,h3]
end
end Go.Xt
namespace Go.Xt
open Go.Wk Go.RowKit
def vOf (agg:Bool) (cs:List Value):Value:=if agg then .agg ⟨cs⟩ else cs.headD undef
structure FnOk (P:Program) (μ0:M) (K:Nat) (caps:List Value) {α:Type} [Mo α] (agg:Bool) (pf:α→Option Bool):Prop where
 isfn:IsFn P K
 call:∀ {μ1:M} {w0 w1:World} {rs:List Res} {x:α} {b:Bool} {cs:List Value},Le μ0 μ1→Mo.cs μ1 cs x→pf x=some b→Sq μ1 w0 w1 rs→CallsV P K ([vOf agg cs]++caps) w1 (fun v w'=>∃ μ2,v=.bool b∧Le μ1 μ2∧Sq μ2 w0 w' rs)
theorem FnOk.up {P:Program} {μ μ':M} {K:Nat} {caps:List Value} {α:Type} [Mo α] {agg:Bool} {pf:α→Option Bool} (h:FnOk P μ K caps agg pf) (l:Le μ μ'):FnOk P μ' K caps agg pf:=⟨h.isfn,fun hl=>h.call (l.t hl)⟩
end Go.Xt
namespace Go.Xt
open Go.Wk Go.RowKit
section
variable {P : Program} {Q : Exit → Act → World → Prop} {K : List Value → List Deferred → World → Prop} {fr fr' : List Value} {ds : List Deferred} {w w' : World}
variable {dst : Option Tmp} {ty : TypeId} {pos : String} {after : Array Edge} {g : Option (Nat × Bool)}
variable {w0 : World} {rs rs' : List Res} {μ μ' : M}
variable {T : TypeId} {d : TypeDesc} {ag : Bool} {zc : List Value} {n m : Nat}
theorem _root_.Go.Wk.Sep.newRow {S S0 : Nat → Prop} {A : World → Prop} {v : Value} {sz k : Nat} {xs : List Value} (hS : Sep S S0 w0 w rs A) (hg : Grow w w') (hr : Row w' v T sz k xs) (hb : ∀ b, v.ownBlock = some b → w.heap.size ≤ b) :
    Sep S S0 w0 w' (.row v T sz k xs :: rs) A where
  keeps := hS.keeps.trans hg.keeps
  all r hr' := by
    rcases List.mem_cons.1 hr' with rfl | h
    · exact hr
    · exact (hS.grow hg).all r h
  dis := by
    cases hv : v.ownBlock with
    | none => simp only [blocks, List.filterMap_cons, Res.block, hv]; exact hS.dis
    | some b =>
      simp only [blocks, List.filterMap_cons, Res.block, hv, List.nodup_cons]
      exact ⟨fun hm => by have := hS.lt hm; have := hb b hv; omega, hS.dis⟩
  new b hm := by
    cases hv : v.ownBlock with
    | none => simp only [blocks, List.filterMap_cons, Res.block, hv] at hm; exact hS.new b hm
    | some b' =>
      simp only [blocks, List.filterMap_cons, Res.block, hv, List.mem_cons] at hm
      rcases hm with rfl | hm
      · exact .inl (Nat.le_trans hS.keeps.size (hb _ hv))
      · exact hS.new b hm
  imm := fun w'' h1 h2 => hS.imm w'' (Nat.le_trans hg.size h1) fun k hk hs => (h2 k (Nat.lt_of_lt_of_le hk hg.size) ⟨hs.1, fun hm => by
    cases hv : v.ownBlock with
    | none => simp only [blocks, List.filterMap_cons, Res.block, hv] at hm; exact hs.2 hm
    | some b' =>
      simp only [blocks, List.filterMap_cons, Res.block, hv, List.mem_cons] at hm
      rcases hm with rfl | hm
      · have := hb _ hv; omega
      · exact hs.2 hm⟩).trans (hg.blk k hk trivial)
theorem row_of_owns {e : TypeId} {sz k base : Nat} {v : Value} {xs : List Value} (h : w.ownsRow base e sz v k xs) : Row w v e sz k xs ∧ ∀ b, v.ownBlock = some b → base ≤ b := by
  obtain ⟨h1, h2⟩ := h
  rcases h2 with ⟨rfl, rfl⟩ | ⟨g, cap, cur, rfl, hb, hg, h3, h4, h5, h6⟩
  · exact ⟨⟨h1, .inl ⟨rfl, rfl⟩⟩, fun b hb => by simp [Value.ownBlock] at hb⟩
  · exact ⟨⟨h1, .inr ⟨g, 0, cap, cur, rfl, hg, h3, h4, by omega, by simpa using h6⟩⟩, fun b hb' => by simp [Value.ownBlock] at hb'; omega⟩
def mks (n : Int) : Option Nat := if 0 ≤ n ∧ n ≤ 65536 then some n.toNat else none
theorem mks_eq {n : Int} {k : Nat} (h : mks n = some k) : n = k ∧ k ≤ 65536 := by
  unfold mks at h
  split at h
  · rename_i hc
    have := Option.some.inj h
    omega
  · cases h
theorem madeOnes (z : Value) (k : Nat) : madeCells #[z] k = (List.replicate k z).toArray := by
  apply Array.ext'
  simp only [madeCells, Array.toList_map, Array.toList_range]
  apply List.ext_getElem?
  intro i
  simp only [List.getElem?_map, List.getElem?_range', List.getElem?_replicate]
  by_cases h : i < k
  · simp [h, Nat.mod_one]
  · simp [h]
theorem s_mkslice {x y : Operand} {e : TypeId} {z : Value} {bytes k : Nat} {kl kc : IntKind} {n : Int} (hT : P.underlying T = some (.slice e)) (hE : TI P e ag [z] 1 bytes) (hb : bytes ≤ 4096) (hx : Ev fr x (.int kl n)) (hy : Ev fr y (.int kc n)) (gk : mks n = some k) (hS : Sq μ w0 w rs)
    (h : ∀ b w', Sq μ w0 w' (.row (.slice (some ⟨b, 0, none⟩) k k) e 1 k (List.replicate k z) :: rs) → Put fr dst (.slice (some ⟨b, 0, none⟩) k k) fun fr' => K fr' ds w') :
    OW P (Oper.mk dst (.makeSlice T x y) ty pos after g) fr ds w K Q := by
  obtain ⟨rfl, hk⟩ := mks_eq gk
  obtain ⟨i, zz, hi, hiz, hzc, hsz, hby⟩ := hE.inf
  have hm : i.bytes * k ≤ 4096 * 65536 := Nat.mul_le_mul (by omega) hk
  have hr := run_make (P := P) w T e i zz hT hi hiz kl kc k k (by omega) (Int.le_refl _) (by have : ((i.bytes * k : Nat) : Int) ≤ 281474976710656 := by omega
                                                                                             rwa [Int.natCast_mul] at this) (by omega)
  simp only [Int.toNat_natCast, hsz, Nat.mul_one, hzc] at hr
  rw [madeOnes] at hr
  obtain ⟨fr', hd⟩ := dt_ex fr dst (.slice (some ⟨w.heap.size, 0, none⟩) k k)
  refine op_v (w' := w.alloc (.cells (List.replicate k z).toArray e)) ?_ hd (h _ _ (hS.alloc rfl ⟨by simp, .inr ⟨_, 0, _, _, rfl, heap_alloc_new w _, Nat.le_refl _, by simp only [maxLen]; omega, by simp, by simp⟩⟩) fr' hd)
  simp only [execOp, hx ds, hy ds, Sem.run_bind, hr, Result.andThen_ok, Sem.run_pure]
theorem rw_rep {α : Type} [Mo α] {z : Value} {x : α} (h : ∀ μ : M, Mo.cs μ [z] x) : ∀ k, Rw μ (List.replicate k z) (List.replicate k x)
  | 0 => rfl
  | k + 1 => ⟨[z], _, rfl, h μ, rw_rep h k⟩
theorem eq_sl {t e : TypeId} {v : Value} {a : Option Addr} {k c : Nat} (hu : P.underlying t = some (.slice e)) : EqV P 1 t (.slice a k c) (.slice none 0 0) a.isNone := ⟨fun d w hd => by
  cases d with
  | zero => omega
  | succ d => cases a <;> simp [Op.equalIn, run_underlying hu]⟩
theorem s_eqnsl {x : Operand} {t t' e : TypeId} {a : Option Addr} {k c : Nat} (hu : P.underlying t = some (.slice e)) (hx : Ev fr x (.slice a k c)) (hp : Dt fr dst (.bool a.isNone) fr') (h : K fr' ds w) :
    OW P (Oper.mk dst (.binOp .eql t x (.const (.slice none 0 0)) t') ty pos after g) fr ds w K Q := by
  refine su ⟨fun ds w => ?_⟩ hp h
  have h1 := hx ds
  have h2 : (F fr ds).eval (.const (.slice none 0 0)) = .slice none 0 0 := rfl
  have h3 := (eq_sl (v := .nilIface) (a := a) (k := k) (c := c) hu).out Op.maxDepth w (by decide)
  simp [execOp, h1, h2, eqGuard, binOp, Op.equal, h3]
def small {α : Type} (l : List α) : Option Unit := if l.length ≤ 65536 then some () else none
theorem small_eq {α : Type} {l : List α} {u : Unit} (h : small l = some u) : l.length ≤ 65536 := by
  unfold small at h
  split at h
  · assumption
  · cases h
theorem Rw.take' {α : Type} [Mo α] : ∀ {l : List α} {cells : List Value} (i : Nat), Rw μ cells l → Rw μ (cells.take (i * Mo.sz α)) (l.take i)
  | [], cells, i, h => by rw [Rw] at h; subst h; simp [Rw]
  | x :: l, cells, 0, h => by simp [Rw]
  | x :: l, cells, i + 1, h => by
    rw [Rw] at h
    obtain ⟨cs, t, rfl, h1, h2⟩ := h
    rw [List.take_succ_cons, Rw]
    refine ⟨cs, t.take (i * Mo.sz α), ?_, h1, Rw.take' i h2⟩
    have e : (i + 1) * Mo.sz α = cs.length + i * Mo.sz α := by rw [Nat.add_mul, Mo.ln h1]; omega
    rw [e, List.take_append]
    simp [List.take_of_length_le (show cs.length ≤ cs.length + i * Mo.sz α by omega)]
theorem Row.cutT {α : Type} [Mo α] {v : Value} {cells : List Value} {l l' : List α} {j : Int} (h : Row w v T (Mo.sz α) l.length cells) (hm : Rw μ cells l) (g : cut l 0 j = some l') :
    ∃ v' cells', Slc v (Mo.sz α) none (some j) v' ∧ v'.ownBlock = v.ownBlock ∧ (∀ w T, Row w v T (Mo.sz α) l.length cells → Row w v' T (Mo.sz α) l'.length cells') ∧ Rw μ cells' l' := by
  obtain ⟨⟨h0, h1, h2⟩, rfl⟩ := cut_eq g
  obtain ⟨v', e1, e2, e3⟩ := Row.cutTo h h1 h2
  refine ⟨v', cells.take (j.toNat * Mo.sz α), e1, e2, fun w T hk => ?_, by simpa using hm.take' j.toNat⟩
  have := e3 w T hk
  have hl : ((l.take j.toNat).drop (0 : Int).toNat).length = j.toNat := by simp; omega
  rw [hl]
  exact this
theorem run_inv {recv : Operand} {xs : List Operand} {tys : Array TypeId} {name : String} {k : FuncId} {t : TypeId} {pv : Value} {vs : List Value} (hm : ∀ w, (method (P.types.size + Made.depth) t pv name).run P w = .ok (k, pv) w) (hk : IsFn P k) (hf : Ev fr recv (.iface t pv)) (hs : Evs fr xs vs) :
    (execOp (F fr ds).eval (Oper.mk dst (.call { callee := .invoke recv name, args := ⟨xs⟩, argTypes := tys }) ty pos after g)).run P w = .ok (.enter k ⟨pv :: vs⟩) w := by
  have h1 := hf ds
  have h2 := hs ds
  have hk' := hk.out ⟨pv :: vs⟩ w
  have hm' := hm w
  simp [execOp, resolve, h1, invoke, callMethod, h2, hk', hm']
theorem s_callI {recv : Operand} {xs : List Operand} {tys : Array TypeId} {name : String} {k : FuncId} {t : TypeId} {pv : Value} {vs : List Value} {R : Value → World → Prop} (hm : ∀ w, (method (P.types.size + Made.depth) t pv name).run P w = .ok (k, pv) w) (hk : IsFn P k) (hf : Ev fr recv (.iface t pv)) (hs : Evs fr xs vs)
    (hc : CallsV P k (pv :: vs) w R) (h : ∀ v w', R v w' → Put fr dst v fun fr' => K fr' ds w') : OW P (Oper.mk dst (.call { callee := .invoke recv name, args := ⟨xs⟩, argTypes := tys }) ty pos after g) fr ds w K Q :=
  op_call (args := pv :: vs) (run_inv hm hk hf hs) hc h
theorem u_mkif {x : Operand} {e : TypeId} {b : Nat} (hu : P.underlying T = some (.pointer e)) (hx : Ev fr x (.pointer (some ⟨b, 0, none⟩))) : PU P (Oper.mk dst (.makeInterface T x) ty pos after g) fr (.iface T (.pointer (some ⟨b, 0, none⟩))) := ⟨fun ds w => by
  have h1 := hx ds
  simp [execOp, h1, Instr.makeInterface, run_underlying hu]⟩
end
end Go.Xt
namespace Go.Xt
open Go.Wk Go.RowKit
section
variable {P:Program} {Q:Exit→Act→World→Prop} {K:List Value→List Deferred→World→Prop} {fr fr':List Value} {ds:List Deferred} {w w':World}
variable {dst:Option Tmp} {ty:TypeId} {pos:String} {after:Array Edge} {g:Option (Nat×Bool)}
variable {w0:World} {rs rs':List Res} {μ μ':M}
variable {T:TypeId} {d:TypeDesc} {ag:Bool} {zc:List Value} {n m:Nat}
def remt (a b:Int):Option Int:=if b=0 then none else some (a.tmod b)
theorem remt_nz {a b c:Int} (h:remt a b=some c):b≠0∧a.tmod b=c:=by
 unfold remt at h
 split at h
 ·cases h
 ·rename_i hb
  exact ⟨hb,Option.some.inj h⟩
theorem Elv.uniq {v:Value} {sz:Nat} {i:Int} {b o b' o':Nat} (h:Elv v sz i b o) (h':Elv v sz i b' o'):b=b'∧o=o':=by
 obtain ⟨o0,n,c,rfl,_,_,rfl⟩:=h.out
 obtain ⟨o1,n1,c1,he,_,_,rfl⟩:=h'.out
 cases he
 exact ⟨rfl,rfl⟩
theorem row_lset {α:Type} {w:World} {v:Value} {T sz i:Nat} {x:α} {l:List α} {cs:List Value} (h:Row w v T sz (l.set i x).length cs):Row w v T sz l.length cs:=by
 rwa [List.length_set] at h
theorem set_same {α:Type} {l:List α} {k:Nat} {x:α} (h:l[k]?=some x):l.set k x=l:=by
 apply List.ext_getElem?
 intro i
 rw [List.getElem?_set]
 split
 ·rename_i e; subst e
  rw [if_pos (List.getElem?_eq_some_iff.1 h).1,h]
 ·rfl
def cpy {α:Type} (l ys:List α):List α:=ys.take l.length++l.drop ys.length
theorem cpy_len {α:Type} (l ys:List α):(cpy l ys).length=l.length:=by simp [cpy]; omega
theorem rw_cpy {α:Type} [Mo α] (hsz:Mo.sz α=1) {l ys:List α} {cells news:List Value} (h:Rw μ cells l) (k:Rw μ news ys):Rw μ (news.take l.length++cells.drop ys.length) (cpy l ys):=by
 have h1:=k.take' l.length
 have h2:=h.drop ys.length
 rw [hsz,Nat.mul_one] at h1 h2
 exact Rw.cat h2 h1
theorem s_copy {α:Type} [Mo α] {t t':TypeId} {x y:Operand} {v:Value} {bytes k c:Nat} {a:Option Addr} {cells news:List Value} {l ys:List α} (hsz:Mo.sz α=1) (ht:P.underlying t=some (.slice T)) (hE:TI P T ag zc 1 bytes)
  (hx:Ev fr x v) (hy:Ev fr y (.slice a ys.length c)) (hS:Sq μ w0 w rs) (hl:Lk rs k (.row v T 1 l.length cells)) (hr:Rw μ cells l) (hm:Rw μ news ys) (hnews:ys≠[]→∃ b o,a=some ⟨b,o,none⟩∧At μ b o news)
  (h:∀ n w' rs',Pt rs k (.row v T 1 l.length (news.take l.length++cells.drop ys.length)) rs'→Sq μ w0 w' rs'→Put fr dst (.int .i64 n) fun fr'=>K fr' ds w') :
  OW P (Oper.mk dst (.call { callee:=.builtin .copy,args:=#[x,y],argTypes:=#[t,t'] }) ty pos after g) fr ds w K Q:=by
 have hrow:Row w v T 1 l.length cells:=hS.get hl
 have hnl:news.length=ys.length:=by have:=hm.len; rw [hsz] at this; omega
 have hs1:(P.info? T).map (·.size)=some 1:=by
  obtain ⟨i,z,hi,-,-,h4,-⟩:=hE.inf
  rw [hi]; simp [h4]
 have run:∀ {r:Int} {w'},(Builtin.copy_ #[t,t'] ty #[v,.slice a ys.length c]).run P w=.ok (.int .i64 r) w' →
   (execOp (F fr ds).eval (Oper.mk dst (.call { callee:=.builtin .copy,args:=#[x,y],argTypes:=#[t,t'] }) ty pos after g)).run P w=.ok (.value (.int .i64 r)) w':=fun hr=>by
  have h1:=hx ds
  have h2:=hy ds
  simp [execOp,resolve,invoke,builtin,h1,h2,hr]
 by_cases h0:ys.length=0∨l.length=0
 ·obtain ⟨fr',hd⟩:=dt_ex fr dst (.int .i64 (0:Nat))
  have hmin:Nat.min ys.length l.length=0:=by rcases h0 with h0 | h0 <;> simp [h0,Nat.min_def] <;> omega
  have hcells:news.take l.length++cells.drop ys.length=cells:=by
   have hc:=hr.len
   rw [hsz] at hc
   rcases h0 with h0 | h0
   ·rw [h0] at hnl ⊢
    simp [List.eq_nil_of_length_eq_zero hnl]
   ·simp [h0,List.eq_nil_of_length_eq_zero (show cells.length=0 by omega)]
  obtain ⟨aa,nn,cc,rfl,hnn⟩:∃ aa nn cc,v=.slice aa nn cc∧nn=l.length:=by
   rcases hrow.2 with ⟨rfl,hz⟩ | ⟨g,o,cap,cur,rfl,-⟩
   ·exact ⟨none,0,0,rfl,hz.symm⟩
   ·exact ⟨_,_,_,rfl,rfl⟩
  subst hnn
  refine op_v (w':=w) (run (r:=((0:Nat):Int)) ?_) hd (h _ w rs ?_ hS fr' hd)
  ·have:=run_copy_none (P:=P) w t t' ty T aa a l.length cc ys.length c ht hs1 hmin
   simpa [goInt] using this
  ·rw [hcells]
   unfold Pt Lk at *
   exact set_same hl
 ·have hy0:ys≠[]:=fun e=>h0 (.inl (by simp [e]))
  obtain ⟨b2,o2,rfl,hat⟩:=hnews hy0
  have hcl:=hr.len
  rw [hsz,Nat.mul_one] at hcl
  rcases hrow.2 with ⟨rfl,hz⟩ | ⟨gg,o,cap,cur,rfl,hg,hc1,hc2,hc3,hc4⟩
  ·exact absurd (.inr hz) h0
  ·obtain ⟨fr',hd⟩:=dt_ex fr dst (.int .i64 ((news.take l.length).length:Nat))
   have hcsl:(news.take l.length).length≤l.length:=by simp; omega
   have hbk:Blk w gg T cur.toList:=hg
   have hall:=hm.cv
   have hrun:=run_copy_row (P:=P) w t t' ty T gg o l.length cap ⟨b2,o2,none⟩ ys.length c cur T (news.take l.length) ht hs1 hg (by simp [hnl,Nat.min_comm]) (fun j u hj=>by
    rw [List.getElem?_take] at hj
    split at hj
    ·have:=hat w hS.a j u hj
     rwa [add_addr]
    ·cases hj) (by omega) (fun u hu=>cell_one (List.all_eq_true.1 hall u (List.mem_of_mem_take hu)))
   have key:Keeps (fun k=>k≠gg) w (w.setRow gg (cur.toList.take o++news.take l.length++cur.toList.drop (o+(news.take l.length).length)).toArray):=⟨rfl,rfl,rfl,by simp [World.setRow],fun k hk hs=>setRow_other w gg k _ hs⟩
   refine op_v (w':=w.setRow gg (cur.toList.take o++news.take l.length++cur.toList.drop (o+(news.take l.length).length)).toArray) (run (r:=((news.take l.length).length:Nat)) (by rw [hrun]; rfl)) hd (h _ _ _ rfl (hS.put (b:=gg) hl rfl rfl rfl ?_ key) fr' hd)
   refine ⟨by simp; omega,.inr ⟨gg,o,cap,_,rfl,setRow_heap w gg ⟨cur.toList⟩ _ T (0,0) hbk,hc1,hc2,?_,?_⟩⟩
   ·simp; omega
   ·have:=drop_splice cur.toList (news.take l.length) o 0 (l.length*1) (by omega) (by simp; omega)
    simp only [Nat.add_zero,List.take_zero,List.nil_append,Nat.zero_add] at this
    rw [List.toList_toArray,this,hc4]
    congr 1
    by_cases hle:ys.length≤l.length
    ·simp [hnl,Nat.min_eq_right hle]
    ·rw [List.drop_eq_nil_of_le (by simp; omega),List.drop_eq_nil_of_le (by omega)]
theorem u_mini {x y:Operand} {t t':TypeId} {d:TypeDesc} {a b:Int} (hu:P.underlying t=some d) (hx:Ev fr x (.int .i64 a)) (hy:Ev fr y (.int .i64 b)):PU P (Oper.mk dst (.call { callee:=.builtin .min,args:=#[x,y],argTypes:=#[t,t'] }) ty pos after g) fr (.int .i64 (min a b)):=⟨fun ds w=>by
 have h1:=hx ds
 have h2:=hy ds
 have e:min a b=if b<a then b else a:=by simp only [Int.min_def]; split <;> split <;> omega
 rw [e]
 by_cases h:b<a <;> simp [execOp,resolve,invoke,builtin,h1,h2,Builtin.min_,Builtin.min2,h]⟩
theorem u_maxi {x y:Operand} {t t':TypeId} {d:TypeDesc} {a b:Int} (hu:P.underlying t=some d) (hx:Ev fr x (.int .i64 a)) (hy:Ev fr y (.int .i64 b)):PU P (Oper.mk dst (.call { callee:=.builtin .max,args:=#[x,y],argTypes:=#[t,t'] }) ty pos after g) fr (.int .i64 (max a b)):=⟨fun ds w=>by
 have h1:=hx ds
 have h2:=hy ds
 have e:max a b=if a<b then b else a:=by simp only [Int.max_def]; split <;> split <;> omega
 rw [e]
 by_cases h:a<b <;> simp [execOp,resolve,invoke,builtin,h1,h2,Builtin.max_,Builtin.max2,h]⟩
theorem nilfe {t:TypeId} {ps rs:Array TypeId} {vr:Bool} (hu:P.underlying t=some (.func ps rs vr)):EqV P 1 t .nilFunc .nilFunc true:=⟨fun d w hd=>by
 cases d with
 | zero=>omega
 | succ d=>simp [Op.equalIn,run_underlying hu]⟩
theorem nilpe {t e:TypeId} (hu:P.underlying t=some (.pointer e)):EqV P 1 t (.pointer none) (.pointer none) true:=⟨fun d w hd=>by
 cases d with
 | zero=>omega
 | succ d=>simp [Op.equalIn,run_underlying hu]⟩
theorem u_nilfneq {x:Operand} {t t':TypeId} {ps rs:Array TypeId} {vr:Bool} (hu:P.underlying t=some (.func ps rs vr)) (hx:Ev fr x .nilFunc):PU P (Oper.mk dst (.binOp .neq t x (.const .nilFunc) t') ty pos after g) fr (.bool false):=⟨fun ds w=>by
 have h1:=hx ds
 have h2:(F fr ds).eval (.const .nilFunc)=.nilFunc:=rfl
 have h3:=(nilfe hu).out Op.maxDepth w (by decide)
 simp [execOp,h1,h2,eqGuard,binOp,Op.equal,h3]⟩
theorem u_nilpeql {x:Operand} {t t' e:TypeId} (hu:P.underlying t=some (.pointer e)) (hx:Ev fr x (.pointer none)):PU P (Oper.mk dst (.binOp .eql t x (.const (.pointer none)) t') ty pos after g) fr (.bool true):=⟨fun ds w=>by
 have h1:=hx ds
 have h2:(F fr ds).eval (.const (.pointer none))=.pointer none:=rfl
 have h3:=(nilpe hu).out Op.maxDepth w (by decide)
 simp [execOp,h1,h2,eqGuard,binOp,Op.equal,h3]⟩
end
end Go.Xt
namespace Go.Xt
open Go.Wk Go.RowKit
section
variable {P:Program} {Q:Exit→Act→World→Prop} {K:List Value→List Deferred→World→Prop} {fr fr':List Value} {ds:List Deferred} {w w':World}
variable {dst:Option Tmp} {ty:TypeId} {pos:String} {after:Array Edge} {g:Option (Nat×Bool)}
variable {w0:World} {rs rs':List Res} {μ μ':M}
variable {T:TypeId} {d:TypeDesc} {ag:Bool} {zc:List Value} {n m:Nat}
def mksp (n:Int):Option Nat:=if 0<n∧n≤65536 then some n.toNat else none
theorem mksp_eq {n:Int} {k:Nat} (h:mksp n=some k):n=k∧0<k∧k≤65536:=by
 unfold mksp at h
 split at h
 ·rename_i hc
  have:=Option.some.inj h
  omega
 ·cases h
theorem u_cap0 {x:Operand} {t e:TypeId} (ht:P.underlying t=some (.slice e)) (hx:Ev fr x (.slice none 0 0)):PU P (Oper.mk dst (.call { callee:=.builtin .cap,args:=#[x],argTypes:=#[t] }) ty pos after g) fr ((.int .i64 0)):=by
 refine ⟨fun ds w=>?_⟩
 have h1:=hx ds
 simp [execOp,h1,resolve,invoke,builtin,Builtin.cap_,run_underlying ht,goInt]
theorem slc_nil {sz:Nat}:Slc (.slice none 0 0) sz none (some 0) (.slice none 0 0):=⟨none,0,0,rfl,by decide,by decide,by decide,rfl⟩
theorem zeros_flat (z:List Value):∀ k,(Builtin.zeroCells z.toArray k).toList=(List.replicate k z).flatten:=by
 intro k
 simp only [Builtin.zeroCells,Array.toList_map,Array.toList_range,List.size_toArray]
 induction k with
 | zero=>simp
 | succ k ih =>
  rw [List.replicate_succ',List.flatten_append,← ih,Nat.add_mul,Nat.one_mul,List.range_add,List.map_append,List.flatten_cons,List.flatten_nil,List.append_nil,List.map_map]
  congr 1
  apply List.ext_getElem?
  intro i
  rw [List.getElem?_map]
  by_cases hi:i<z.length
  ·rw [List.getElem?_range hi]
   simp [Nat.mod_eq_of_lt hi,hi]
  ·rw [List.getElem?_eq_none (by simp; omega),List.getElem?_eq_none (by omega)]
   rfl
theorem rw_repz {α:Type} [Mo α] {z:List Value} {x:α} (h:∀ μ:M,Mo.cs μ z x):∀ k,Rw μ (List.replicate k z).flatten (List.replicate k x)
 | 0=>rfl
 | k+1=>⟨z,_,rfl,h μ,rw_repz h k⟩
theorem s_appz {t tn e:TypeId} {x y:Operand} {z:List Value} {sz bytes k:Nat} {kn:IntKind} {n:Int} (hT:P.underlying t=some (.slice e)) (hN:P.underlying tn=some (.int kn)) (hE:TI P e ag z sz bytes) (hb:(decide (bytes≤4096) && (z.length == sz && decide (0<sz)))=true)
  (hx:Ev fr x (.slice none 0 0)) (hy:Ev fr y (.int kn n)) (gk:mksp n=some k) (hS:Sq μ w0 w rs)
  (h:∀ b c w',Sq μ w0 w' (.row (.slice (some ⟨b,0,none⟩) k c) e sz k (List.replicate k z).flatten::rs)→Put fr dst (.slice (some ⟨b,0,none⟩) k c) fun fr'=>K fr' ds w') :
  OW P (Oper.mk dst (.call { callee:=.builtin .append,args:=#[x,y],argTypes:=#[t,tn] }) ty pos after g) fr ds w K Q:=by
 obtain ⟨rfl,h0,hk⟩:=mksp_eq gk
 simp only [Bool.and_eq_true,beq_iff_eq,decide_eq_true_eq] at hb
 obtain ⟨hby0,hzl,hs0⟩:=hb
 obtain ⟨i,zz,hi,hiz,hzc,hsz,hby⟩:=hE.inf
 subst hsz
 subst hby
 have h48:k*i.bytes≤65536*4096:=Nat.mul_le_mul hk hby0
 have hr:=Go.Lib.run_append_nil_zeros (P:=P) w t tn ty e i zz kn kn hT hN hi hiz k h0 hs0 (by omega) (by omega)
 obtain ⟨fr',hd⟩:=dt_ex fr dst (.slice (some ⟨w.heap.size,0,none⟩) k (grownCap w k 0 e))
 have hge:=grownCap_ge w k 0 e
 have hcm:grownCap w k 0 e≤maxLen:=grownCap_le_maxLen w k 0 e (by unfold maxLen; omega)
 have hzz:zz.cells=z.toArray:=hzc
 have hfl:((List.replicate k z).flatten).length=k*i.size:=by
  simp [hzl]
 have e1:=hx ds
 have e2:=hy ds
 have hmul:k*i.size≤grownCap w k 0 e*i.size:=Nat.mul_le_mul_right _ hge
 refine op_v (v:=.slice (some ⟨w.heap.size,0,none⟩) k (grownCap w k 0 e)) (w':=w.drew.alloc (.cells (Builtin.zeroCells zz.cells k++Builtin.zeroCells zz.cells (grownCap w k 0 e - k)) e)) ?_ hd (h _ _ _ ((hS.drew (w':=w.drew) rfl rfl rfl rfl).alloc rfl ⟨hfl,.inr ⟨_,0,_,_,rfl,heap_alloc_new w.drew _,hge,hcm,?_,?_⟩⟩) fr' hd)
 ·simp [execOp,resolve,invoke,builtin,e1,e2,hr]
 ·simp only [Array.size_append,size_zeroCells,hzz,List.size_toArray,hzl,← Nat.add_mul,Nat.zero_add]
  exact Nat.mul_le_mul_right _ (by omega)
 ·rw [hzz,Array.toList_append,zeros_flat,List.drop_zero,← hfl]
  exact List.take_left
end
end Go.Xt
namespace Go.Xt
open Go.Wk Go.RowKit
section
variable {P : Program} {Q : Exit → Act → World → Prop} {K : List Value → List Deferred → World → Prop} {fr fr' : List Value} {ds : List Deferred} {w w' : World}
variable {dst : Option Tmp} {ty : TypeId} {pos : String} {after : Array Edge} {g : Option (Nat × Bool)}
def shrI (a k : Int) : Option Int := if 0 ≤ k ∧ k ≤ 63 then some (a.fdiv (2 ^ k.toNat)) else none
theorem shrI_eq {a k c : Int} (h : shrI a k = some c) : (0 ≤ k ∧ k ≤ 63) ∧ c = a.fdiv (2 ^ k.toNat) := by
  unfold shrI at h
  split at h
  · rename_i hc
    exact ⟨hc, (Option.some.inj h).symm⟩
  · cases h
theorem u_shr {x y : Operand} {t t' : TypeId} {yk : IntKind} {a k c : Int} (hx : Ev fr x (.int .i64 a)) (hy : Ev fr y (.int yk k)) (h : shrI a k = some c) : PU P (Oper.mk dst (.binOp .shr t x y t') ty pos after g) fr (.int .i64 c) := ⟨fun ds w => by
  obtain ⟨⟨h0, h1⟩, rfl⟩ := shrI_eq h
  have e : min k.toNat 64 = k.toNat := by omega
  have hn : ¬ k < 0 := by omega
  have e3 : a.fdiv (2 ^ k.toNat) = a / 2 ^ k.toNat := Int.fdiv_eq_ediv_of_nonneg _ (Int.le_of_lt (Int.pow_pos (by decide)))
  simp [execOp, hx ds, hy ds, eqGuard, binOp, Op.shift, hn, IntKind.bits, e, e3]⟩
theorem s_shr {x y : Operand} {t t' : TypeId} {yk : IntKind} {a k c : Int} (hx : Ev fr x (.int .i64 a)) (hy : Ev fr y (.int yk k)) (h : shrI a k = some c) (hp : Dt fr dst (.int .i64 c) fr') (k' : K fr' ds w) : OW P (Oper.mk dst (.binOp .shr t x y t') ty pos after g) fr ds w K Q := su (u_shr hx hy h) hp k'
theorem and_one (a : Int) : IntKind.i64.wrap ((BitVec.ofInt 64 a &&& BitVec.ofInt 64 1).toNat : Int) = a % 2 := by
  have e : (BitVec.ofInt 64 a &&& BitVec.ofInt 64 1).toNat = (BitVec.ofInt 64 a).toNat % 2 := by
    rw [BitVec.toNat_and]
    have : (BitVec.ofInt 64 1).toNat = 1 := by decide
    rw [this, Nat.and_one_is_mod]
  rw [e, BitVec.toNat_ofInt, IntKind.wrap_i64]
  omega
theorem u_and1 {x y : Operand} {t t' : TypeId} {a : Int} (hx : Ev fr x (.int .i64 a)) (hy : Ev fr y (.int .i64 1)) : PU P (Oper.mk dst (.binOp .and t x y t') ty pos after g) fr (.int .i64 (a % 2)) := ⟨fun ds w => by
  have h := and_one a
  simp only [execOp, hx ds, hy ds, eqGuard, binOp, Op.intBits, IntKind.bits, Sem.run_bind, Sem.run_pure, Result.andThen_ok]
  simp
  exact h⟩
theorem s_and1 {x y : Operand} {t t' : TypeId} {a : Int} (hx : Ev fr x (.int .i64 a)) (hy : Ev fr y (.int .i64 1)) (hp : Dt fr dst (.int .i64 (a % 2)) fr') (k' : K fr' ds w) : OW P (Oper.mk dst (.binOp .and t x y t') ty pos after g) fr ds w K Q := su (u_and1 hx hy) hp k'
end
end Go.Xt
namespace Go.Xt
open Go.Wk Go.RowKit
instance : Mo UInt8 where
  sz := 1
  pos := by decide
  cs _ l x := l = [.int .u8 x.toNat]
  ln h := by rw [h]; rfl
  up _ h := h
  cv h := by rw [h]; rfl
def pint (l : List UInt8) : Option Int := if l.length ≤ 9223372036854775806 then (match Lib.parseIntB 64 l with | .ok v => some v | _ => none) else none
def scont (l sub : List UInt8) : Option Bool := if l.length < 4294967281 then some (Lib.contains l sub) else none
end Go.Xt
namespace Go.Xt
open Go.Wk Go.RowKit
theorem xT {α:Type} {c:Prop} [Decidable c] {y:Option α} {r:α} {G:Prop} (h:(if c then none else y)=some r) (hc:c):G:=by rw [if_pos hc] at h; cases h
theorem xF {α:Type} {c:Prop} [Decidable c] {x:Option α} {r:α} {G:Prop} (h:(if c then x else none)=some r) (hc:¬ c):G:=by rw [if_neg hc] at h; cases h
section
variable {P:Program} {Q Q':Exit→Act→World→Prop} {fr fr':List Value} {ds:List Deferred} {w:World} {ops:Array Oper} {y:Code} {id:Nat} {l:List Oper}
theorem nw (h:CW P y Q' fr ds w):WL P ops (Exit.then (Nx P y Q') Q) [] fr ds w:=wnil (xn h)
theorem nu (h:CW P y Q' fr ds w):SC P ops (Exit.then (Nx P y Q') Q) [] fr ds w:=sc_nil (xn h)
theorem nz (h:WL P l.toArray (Exit.then (Nx P y Q) Q) l fr ds w):CW P (.seq (.region id l.toArray false) y) Q fr ds w:=cseq (creg h)
theorem nx (h:WL P l.toArray (Exit.then (Nx P y Q') Q') l fr ds w):WL P ops (Exit.then (Nx P (.seq (.region id l.toArray false) y) Q') Q) [] fr ds w:=wnil (xn (cseq (creg h)))
theorem ny {x:Code} (h:CW P x (Exit.then (Nx P y Q') Q') fr ds w):WL P ops (Exit.then (Nx P (.seq x y) Q') Q) [] fr ds w:=wnil (xn (cseq h))
variable {R R':List Nat} {dst:Tmp} {op:Op} {ty:TypeId} {pos:String} {after:Array Edge} {v:Value} {Ns:List Mon} {j d:Nat} {b b':Bool}
theorem cp (i:Nat) (he:(decide R.Nodup && enabled ops R i && apart ops false R i,R.erase i,ops[i]?)=(true,R',some ⟨some dst,op,ty,pos,after,none⟩)) (hv:PU P ⟨some dst,op,ty,pos,after,none⟩ fr v) (hp:Pt fr dst v fr') (h:SC P ops Q R' fr' ds w) (hQ:Blind Q:=by first | exact blind_of fun _ _ _ h=>h | exact blind_of fun _ _ _ h=>h.2 | exact blind_of fun _ _ _ h=>h.2.2):SC P ops Q R fr ds w:=sc_pu hQ (congrArg (·.1) he) (congrArg (·.2.1) he) (congrArg (·.2.2) he) hv hp h
theorem cpY (i:Nat) (he:(decide R.Nodup && enabled ops R i && apartG ops false R i,R.erase i,ops[i]?)=(true,R',some ⟨some dst,op,ty,pos,after,some (j,b)⟩)) (hj:(ops[j]?).bind (·.dst)=some d) (hl:Lk fr d (.bool b)) (hv:PU P ⟨some dst,op,ty,pos,after,some (j,b)⟩ fr v) (hp:Pt fr dst v fr') (h:SC P ops Q R' fr' ds w) (hQ:Blind Q:=by first | exact blind_of fun _ _ _ h=>h | exact blind_of fun _ _ _ h=>h.2 | exact blind_of fun _ _ _ h=>h.2.2):SC P ops Q R fr ds w:=sc_puY hQ (congrArg (·.1) he) (congrArg (·.2.1) he) (congrArg (·.2.2) he) hj hl hv hp h
theorem cpN (i:Nat) (he:(decide R.Nodup && enabled ops R i && apartG ops false R i,R.erase i,ops[i]?)=(true,R',some ⟨some dst,op,ty,pos,after,some (j,b)⟩)) (hj:(ops[j]?).bind (·.dst)=some d) (hl:Lk fr d (.bool b')) (hb:(b' == b)=false) (hp:Pt fr dst undef fr') (h:SC P ops Q R' fr' ds w) (hQ:Blind Q:=by first | exact blind_of fun _ _ _ h=>h | exact blind_of fun _ _ _ h=>h.2 | exact blind_of fun _ _ _ h=>h.2.2):SC P ops Q R fr ds w:=sc_puN hQ (congrArg (·.1) he) (congrArg (·.2.1) he) (congrArg (·.2.2) he) hj hl hb hp h
theorem cr (i:Nat) (S:List Nat) (he:(decide R.Nodup && enabled ops R i && waits ops R S i && apartS ops S R i,R.erase i,ops[i]?)=(true,R',some ⟨some dst,op,ty,pos,after,none⟩)) (hv:LU P ⟨some dst,op,ty,pos,after,none⟩ fr w v) (hp:Pt fr dst v fr') (h:SC P ops Q R' fr' ds w) (hQ:Blind Q:=by first | exact blind_of fun _ _ _ h=>h | exact blind_of fun _ _ _ h=>h.2 | exact blind_of fun _ _ _ h=>h.2.2):SC P ops Q R fr ds w:=sc_rdS S hQ (congrArg (·.1) he) (congrArg (·.2.1) he) (congrArg (·.2.2) he) hv hp h
theorem crY (i:Nat) (S:List Nat) (he:(decide R.Nodup && enabled ops R i && waits ops R S i && apartS ops S R i,R.erase i,ops[i]?)=(true,R',some ⟨some dst,op,ty,pos,after,some (j,b)⟩)) (hj:(ops[j]?).bind (·.dst)=some d) (hl:Lk fr d (.bool b)) (hv:LU P ⟨some dst,op,ty,pos,after,some (j,b)⟩ fr w v) (hp:Pt fr dst v fr') (h:SC P ops Q R' fr' ds w) (hQ:Blind Q:=by first | exact blind_of fun _ _ _ h=>h | exact blind_of fun _ _ _ h=>h.2 | exact blind_of fun _ _ _ h=>h.2.2):SC P ops Q R fr ds w:=sc_rdSY S hQ (congrArg (·.1) he) (congrArg (·.2.1) he) (congrArg (·.2.2) he) hj hl hv hp h
theorem fp (i:Nat) (S:List Nat) (he:(decide R.Nodup && enabled ops R i && waits ops R S i && apartF ops S R i && S.contains i,R.erase i,ops[i]?)=(true,R',some ⟨some dst,op,ty,pos,after,none⟩)) (hv:PU P ⟨some dst,op,ty,pos,after,none⟩ fr v) (hp:Pt fr dst v fr') (h:SF P ops Q Ns R' fr' ds w) (hQ:Blind Q:=by first | exact blind_of fun _ _ _ h=>h | exact blind_of fun _ _ _ h=>h.2 | exact blind_of fun _ _ _ h=>h.2.2):SF P ops Q Ns R fr ds w:=sf_pu S hQ (congrArg (·.1) he) (congrArg (·.2.1) he) (congrArg (·.2.2) he) hv hp h
theorem fpY (i:Nat) (S:List Nat) (he:(decide R.Nodup && enabled ops R i && waits ops R S i && apartF ops S R i && S.contains i,R.erase i,ops[i]?)=(true,R',some ⟨some dst,op,ty,pos,after,some (j,b)⟩)) (hj:(ops[j]?).bind (·.dst)=some d) (hl:Lk fr d (.bool b)) (hv:PU P ⟨some dst,op,ty,pos,after,some (j,b)⟩ fr v) (hp:Pt fr dst v fr') (h:SF P ops Q Ns R' fr' ds w) (hQ:Blind Q:=by first | exact blind_of fun _ _ _ h=>h | exact blind_of fun _ _ _ h=>h.2 | exact blind_of fun _ _ _ h=>h.2.2):SF P ops Q Ns R fr ds w:=sf_puY S hQ (congrArg (·.1) he) (congrArg (·.2.1) he) (congrArg (·.2.2) he) hj hl hv hp h
theorem fpN (i:Nat) (S:List Nat) (he:(decide R.Nodup && enabled ops R i && waits ops R S i && apartF ops S R i && S.contains i,R.erase i,ops[i]?)=(true,R',some ⟨some dst,op,ty,pos,after,some (j,b)⟩)) (hj:(ops[j]?).bind (·.dst)=some d) (hl:Lk fr d (.bool b')) (hb:(b' == b)=false) (hp:Pt fr dst undef fr') (h:SF P ops Q Ns R' fr' ds w) (hQ:Blind Q:=by first | exact blind_of fun _ _ _ h=>h | exact blind_of fun _ _ _ h=>h.2 | exact blind_of fun _ _ _ h=>h.2.2):SF P ops Q Ns R fr ds w:=sf_puN S hQ (congrArg (·.1) he) (congrArg (·.2.1) he) (congrArg (·.2.2) he) hj hl hb hp h
theorem fr_ (i:Nat) (S:List Nat) (he:(decide R.Nodup && enabled ops R i && waits ops R S i && apartF ops S R i && S.contains i,R.erase i,ops[i]?)=(true,R',some ⟨some dst,op,ty,pos,after,none⟩)) (hv:LU P ⟨some dst,op,ty,pos,after,none⟩ fr w v) (hp:Pt fr dst v fr') (h:SF P ops Q ((S,fun w'=>LU P ⟨some dst,op,ty,pos,after,none⟩ fr w' v)::Ns) R' fr' ds w) (hQ:Blind Q:=by first | exact blind_of fun _ _ _ h=>h | exact blind_of fun _ _ _ h=>h.2 | exact blind_of fun _ _ _ h=>h.2.2):SF P ops Q Ns R fr ds w:=sf_rd S hQ (congrArg (·.1) he) (congrArg (·.2.1) he) (congrArg (·.2.2) he) hv hp h
theorem fr_Y (i:Nat) (S:List Nat) (he:(decide R.Nodup && enabled ops R i && waits ops R S i && apartF ops S R i && S.contains i,R.erase i,ops[i]?)=(true,R',some ⟨some dst,op,ty,pos,after,some (j,b)⟩)) (hj:(ops[j]?).bind (·.dst)=some d) (hl:Lk fr d (.bool b)) (hv:LU P ⟨some dst,op,ty,pos,after,some (j,b)⟩ fr w v) (hp:Pt fr dst v fr') (h:SF P ops Q ((S,fun w'=>LU P ⟨some dst,op,ty,pos,after,some (j,b)⟩ fr w' v)::Ns) R' fr' ds w) (hQ:Blind Q:=by first | exact blind_of fun _ _ _ h=>h | exact blind_of fun _ _ _ h=>h.2 | exact blind_of fun _ _ _ h=>h.2.2):SF P ops Q Ns R fr ds w:=sf_rdY S hQ (congrArg (·.1) he) (congrArg (·.2.1) he) (congrArg (·.2.2) he) hj hl hv hp h
end
class Lki (l:List Value) (n:Nat) (v:outParam Value):Prop where out:Lk l n v
instance {v:Value} {l:List Value}:Lki (v::l) 0 v:=⟨rfl⟩
instance {a v:Value} {l:List Value} {n:Nat} [h:Lki l n v]:Lki (a::l) (n+1) v:=⟨h.out⟩
instance (priority:=2000) {c0 c1 c2 c3 c4 c5 c6 c7 c8 c9 v:Value} {l:List Value} {n:Nat} [h:Lki l n v]:Lki (c0::c1::c2::c3::c4::c5::c6::c7::c8::c9::l) (n+10) v:=⟨h.out⟩
class Pti (l:List Value) (n:Nat) (v:Value) (l':outParam (List Value)):Prop where out:Pt l n v l'
instance {a v:Value} {l:List Value}:Pti (a::l) 0 v (v::l):=⟨rfl⟩
instance {a v:Value} {l l':List Value} {n:Nat} [h:Pti l n v l']:Pti (a::l) (n+1) v (a::l'):=⟨congrArg (a::·) h.out⟩
instance (priority:=2000) {c0 c1 c2 c3 c4 c5 c6 c7 c8 c9 v:Value} {l l':List Value} {n:Nat} [h:Pti l n v l']:Pti (c0::c1::c2::c3::c4::c5::c6::c7::c8::c9::l) (n+10) v (c0::c1::c2::c3::c4::c5::c6::c7::c8::c9::l'):=⟨congrArg (c0::c1::c2::c3::c4::c5::c6::c7::c8::c9::·) h.out⟩
class Evi (fr:List Value) (x:Operand) (v:outParam Value):Prop where out:Ev fr x v
instance {fr:List Value} {n:Nat} {v:Value} [h:Lki fr n v]:Evi fr (.tmp n) v:=⟨et h.out⟩
instance {fr:List Value} {v:Value}:Evi fr (.const v) v:=⟨ec⟩
class Pui (P:Program) (op:Op) (fr:List Value) (v:outParam Value):Prop where out:∀ dst ty pos after g,PU P (Oper.mk dst op ty pos after g) fr v
section
variable {P:Program} {fr:List Value} {x y c:Operand} {v:Value} {t t':TypeId} {k:IntKind} {a b:Int}
instance [h:Evi fr x v]:Pui P (.move x) fr v:=⟨fun _ _ _ _ _=>u_move h.out⟩
instance [h:Evi fr x v]:Pui P (.assign x) fr v:=⟨fun _ _ _ _ _=>u_assign h.out⟩
instance {a:Addr} [h:Evi fr x (.pointer (some a))]:Pui P (.nilCheck x) fr (.pointer (some a)):=⟨fun _ _ _ _ _=>u_nilck h.out⟩
instance [hx:Evi fr x (.int k a)] [hy:Evi fr y (.int k b)]:Pui P (.binOp .eql t x y t') fr (.bool (decide (a=b))):=⟨fun _ _ _ _ _=>u_eqi hx.out hy.out⟩
instance [hx:Evi fr x (.int k a)] [hy:Evi fr y (.int k b)]:Pui P (.binOp .neq t x y t') fr (.bool (decide (a≠b))):=⟨fun _ _ _ _ _=>u_nei hx.out hy.out⟩
instance [hx:Evi fr x (.int k a)] [hy:Evi fr y (.int k b)]:Pui P (.binOp .lss t x y t') fr (.bool (decide (a<b))):=⟨fun _ _ _ _ _=>u_lss hx.out hy.out⟩
instance [hx:Evi fr x (.int k a)] [hy:Evi fr y (.int k b)]:Pui P (.binOp .leq t x y t') fr (.bool (decide (a≤b))):=⟨fun _ _ _ _ _=>u_leq hx.out hy.out⟩
instance [hx:Evi fr x (.int k a)] [hy:Evi fr y (.int k b)]:Pui P (.binOp .gtr t x y t') fr (.bool (decide (b<a))):=⟨fun _ _ _ _ _=>u_gtr hx.out hy.out⟩
instance [hx:Evi fr x (.int k a)] [hy:Evi fr y (.int k b)]:Pui P (.binOp .geq t x y t') fr (.bool (decide (b≤a))):=⟨fun _ _ _ _ _=>u_geq hx.out hy.out⟩
end
section
variable {P:Program} {Q:Exit→Act→World→Prop} {fr fr':List Value} {ds:List Deferred} {w:World} {ops:Array Oper} {rest:List Oper} {d:Tmp} {op:Op} {ty:TypeId} {pos:String} {after:Array Edge} {v:Value}
theorem st [hu:Pui P op fr v] [hp:Pti fr d v fr'] (h:WL P ops Q rest fr' ds w):WL P ops Q (⟨some d,op,ty,pos,after,none⟩::rest) fr ds w:=wl (su (hu.out _ _ _ _ _) (dt hp.out) h)
end
class Evsi (fr:List Value) (xs:List Operand) (vs:outParam (List Value)):Prop where out:Evs fr xs vs
instance {fr:List Value}:Evsi fr [] []:=⟨e0⟩
instance {fr:List Value} {x:Operand} {v:Value} {xs:List Operand} {vs:List Value} [h:Evi fr x v] [k:Evsi fr xs vs]:Evsi fr (x::xs) (v::vs):=⟨e1 h.out k.out⟩
section
variable {P:Program} {fr:List Value} {x y c:Operand} {v:Value} {t t' T:TypeId} {b:Nat} {o off i:Nat} {vs:List Value} {q:Bool}
instance [hF:FA P T i off] [h:Evi fr x (.pointer (some ⟨b,o,none⟩))]:Pui P (.fieldAddr T x i) fr (.pointer (some ⟨b,o+off,none⟩)):=⟨fun _ _ _ _ _=>u_fa hF h.out rfl⟩
instance [hc:Evi fr c (.bool true)] [h:Evi fr x v]:Pui P (.pick c x y) fr v:=⟨fun _ _ _ _ _=>u_pickt hc.out h.out⟩
instance [hc:Evi fr c (.bool false)] [h:Evi fr y v]:Pui P (.pick c x y) fr v:=⟨fun _ _ _ _ _=>u_pickf hc.out h.out⟩
instance [h:Evi fr x (.bool q)]:Pui P (.unOp .not t x) fr (.bool (!q)):=⟨fun _ _ _ _ _=>u_not h.out⟩
instance [h:Evi fr x (.tuple ⟨vs⟩)] [k:Lki vs i v]:Pui P (.extract x i) fr v:=⟨fun _ _ _ _ _=>u_extr h.out k.out⟩
end
section
variable {P:Program} {Q:Exit→Act→World→Prop} {fr fr':List Value} {ds:List Deferred} {w:World} {ops:Array Oper} {rest:List Oper} {d:Tmp} {op:Op} {ty:TypeId} {pos:String} {after:Array Edge} {v:Value} {j e:Nat} {b b':Bool}
theorem sy [hu:Pui P op fr v] [hp:Pti fr d v fr'] (hj:(ops[j]?).bind (·.dst)=some e) [hl:Lki fr e (.bool b)] (h:WL P ops Q rest fr' ds w):WL P ops Q (⟨some d,op,ty,pos,after,some (j,b)⟩::rest) fr ds w:=wy hj hl.out (su (hu.out _ _ _ _ _) (dt hp.out) h)
theorem sn [hp:Pti fr d undef fr'] (hj:(ops[j]?).bind (·.dst)=some e) [hl:Lki fr e (.bool b')] (hb:(b' == b)=false) (h:WL P ops Q rest fr' ds w):WL P ops Q (⟨some d,op,ty,pos,after,some (j,b)⟩::rest) fr ds w:=wn hj hl.out hb (dt hp.out) h
theorem ld {T:TypeId} {zc:List Value} {n m o q:Nat} {x:Operand} [hT:TI P T false zc n m] (hc:w.cell? ⟨q,o,none⟩=some v) [hx:Evi fr x (.pointer (some ⟨q,o,none⟩))] [hp:Pti fr d v fr'] (h:WL P ops Q rest fr' ds w):WL P ops Q (⟨some d,.load T x,ty,pos,after,none⟩::rest) fr ds w:=wl (s_load hT hx.out hc (dt hp.out) h)
theorem lds {T:TypeId} {zc cs:List Value} {n m o q:Nat} {x:Operand} [hT:TI P T true zc n m] (hc:CellsAt w q o cs) (hn:cs.length=n) [hx:Evi fr x (.pointer (some ⟨q,o,none⟩))] [hp:Pti fr d (.agg ⟨cs⟩) fr'] (h:WL P ops Q rest fr' ds w):WL P ops Q (⟨some d,.load T x,ty,pos,after,none⟩::rest) fr ds w:=wl (s_loads hT hx.out hc hn (dt hp.out) h)
theorem ca {dst:Option Tmp} {xs:List Operand} {tys:Array TypeId} {k:FuncId} {vs:List Value} {R:Value→World→Prop} [hk:IsFn P k] [hs:Evsi fr xs vs] (hc:CallsV P k vs w R) (h:∀ v w',R v w'→Put fr dst v fun fr'=>WL P ops Q rest fr' ds w') :
  WL P ops Q (⟨dst,.call { callee:=.value (.func k),args:=⟨xs⟩,argTypes:=tys },ty,pos,after,none⟩::rest) fr ds w:=wl (s_callv hk ef hs.out hc h)
theorem cdw {id:Nat} {l:List Oper} {μ:M} {w0:World} {rs:List Res} (hS:Sq μ w0 w rs) (h:∀ w',Sq μ w0 w' rs→SC P l.toArray Q (List.range l.length) fr ds w') (hm:P.follows .mixedOrders=true:=by kernel_rfl) (hlow:(List.range l.toArray.size).all (fun i=>(deps l.toArray i).all fun j=>decide (j<i))=true:=by rfl):CW P (.region id l.toArray true) Q fr ds w :=
 cdraw hm hlow fun w' h1 h2 h3 h4=>h w' (hS.drew h1 h2 h3 h4)
theorem po {v:Value} {K:List Value→Prop} [hp:Pti fr d v fr'] (h:K fr'):Put fr (some d) v K:=pu (dt hp.out) h
theorem cpi {R R':List Nat} (i:Nat) (he:(decide R.Nodup && enabled ops R i && apart ops false R i,R.erase i,ops[i]?)=(true,R',some ⟨some d,op,ty,pos,after,none⟩)) [hv:Pui P op fr v] [hp:Pti fr d v fr'] (h:SC P ops Q R' fr' ds w) (hQ:Blind Q:=by first | exact blind_of fun _ _ _ h=>h | exact blind_of fun _ _ _ h=>h.2 | exact blind_of fun _ _ _ h=>h.2.2):SC P ops Q R fr ds w :=
 cp i he (hv.out _ _ _ _ _) hp.out h hQ
theorem fpi {Ns:List Mon} {R R':List Nat} (i:Nat) (S:List Nat) (he:(decide R.Nodup && enabled ops R i && waits ops R S i && apartF ops S R i && S.contains i,R.erase i,ops[i]?)=(true,R',some ⟨some d,op,ty,pos,after,none⟩)) [hv:Pui P op fr v] [hp:Pti fr d v fr'] (h:SF P ops Q Ns R' fr' ds w) (hQ:Blind Q:=by first | exact blind_of fun _ _ _ h=>h | exact blind_of fun _ _ _ h=>h.2 | exact blind_of fun _ _ _ h=>h.2.2):SF P ops Q Ns R fr ds w :=
 fp i S he (hv.out _ _ _ _ _) hp.out h hQ
end
section
variable {rs rs':List Res} {a1 a2 a3 a4 a5 a6 a7 a8 a9 a10 a11 a12 r:Res}
theorem Y1:Bg (a1::r::rs) 1 (r::a1::rs):=.s (Bg.z)
theorem Y2:Bg (a1::a2::r::rs) 2 (r::a1::a2::rs):=.s (.s (Bg.z))
theorem Y3:Bg (a1::a2::a3::r::rs) 3 (r::a1::a2::a3::rs):=.s (.s (.s (Bg.z)))
theorem Y4:Bg (a1::a2::a3::a4::r::rs) 4 (r::a1::a2::a3::a4::rs):=.s (.s (.s (.s (Bg.z))))
theorem Y5:Bg (a1::a2::a3::a4::a5::r::rs) 5 (r::a1::a2::a3::a4::a5::rs):=.s (.s (.s (.s (.s (Bg.z)))))
theorem Y6:Bg (a1::a2::a3::a4::a5::a6::r::rs) 6 (r::a1::a2::a3::a4::a5::a6::rs):=.s (.s (.s (.s (.s (.s (Bg.z))))))
theorem Y7:Bg (a1::a2::a3::a4::a5::a6::a7::r::rs) 7 (r::a1::a2::a3::a4::a5::a6::a7::rs):=.s (.s (.s (.s (.s (.s (.s (Bg.z)))))))
theorem Y8:Bg (a1::a2::a3::a4::a5::a6::a7::a8::r::rs) 8 (r::a1::a2::a3::a4::a5::a6::a7::a8::rs):=.s (.s (.s (.s (.s (.s (.s (.s (Bg.z))))))))
end
abbrev u1 (l:List Value):List Value:=undef::l
abbrev u2 (l:List Value):List Value:=undef::undef::l
abbrev u5 (l:List Value):List Value:=undef::undef::undef::undef::undef::l
abbrev u10 (l:List Value):List Value:=undef::undef::undef::undef::undef::undef::undef::undef::undef::undef::l
abbrev u20 (l:List Value):List Value:=undef::undef::undef::undef::undef::undef::undef::undef::undef::undef::undef::undef::undef::undef::undef::undef::undef::undef::undef::undef::l
abbrev u50 (l:List Value):List Value:=undef::undef::undef::undef::undef::undef::undef::undef::undef::undef::undef::undef::undef::undef::undef::undef::undef::undef::undef::undef::undef::undef::undef::undef::undef::undef::undef::undef::undef::undef::undef::undef::undef::undef::undef::undef::undef::undef::undef::undef::undef::undef::undef::undef::undef::undef::undef::undef::undef::undef::l
end Go.Xt
namespace Go.Xt
theorem oI {α : Type} {a b : α} (h : some a = some b) : a = b := Option.some.inj h
abbrev rg : Nat → Nat → List Nat := fun a b => List.range' a b
end Go.Xt
