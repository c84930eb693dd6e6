/- The shelf: texts of Xu. -/
import Derived.Test.YtegmgfljdeabeaaGreatDoorCXt
import Derived.Laws.MakeOwn
import Derived.Laws.CopyRow
import Derived.Laws.IdiomCopy
import Derived.Lib.AppendZeros
import Derived.Lib.IndexMore
set_option linter.unusedSimpArgs false
set_option linter.unusedVariables false
set_option linter.unusedSectionVars false
namespace Go.Xt
open Go.Wk Go.RowKit
theorem Rw.split {α:Type} [Mo α] {μ:M}:∀ {l:List α} {cells:List Value} {i:Nat} {x:α},Rw μ cells l→l[i]?=some x →
  ∃ pc cs sc,cells=pc++(cs++sc)∧pc.length=i*Mo.sz α∧Mo.cs μ cs x∧∀ (μ':M) (cs':List Value) (x':α),Le μ μ'→Mo.cs μ' cs' x'→Rw μ' (pc++(cs'++sc)) (l.set i x')
 | [],cells,i,x,h,hx=>by simp at hx
 | y::l,cells,i,x,h,hx=>by
  rw [Rw] at h
  obtain ⟨cs,t,rfl,h1,h2⟩:=h
  cases i with
  | zero =>
   simp at hx
   subst hx
   exact ⟨[],cs,t,rfl,by simp,h1,fun μ' cs' x' hl h'=>⟨cs',t,rfl,h',h2.up hl⟩⟩
  | succ i =>
   simp at hx
   obtain ⟨pc,cs2,sc,rfl,e,m,st⟩:=Rw.split h2 hx
   exact ⟨cs++pc,cs2,sc,by simp,by simp [e,Mo.ln h1,Nat.add_mul]; omega,m,fun μ' cs' x' hl h'=>⟨cs,pc++(cs'++sc),by simp,Mo.up hl h1,st μ' cs' x' hl h'⟩⟩
theorem _root_.Go.Wk.Row.elemS {α:Type} [Mo α] {w:World} {T:TypeId} {n:Nat} {μ:M} {v:Value} {cells:List Value} {l:List α} {i:Int} {x:α} (h:Row w v T (Mo.sz α) n cells) (hr:Rw μ cells l) (hn:l.length=n) (g:at_ l i=some x) :
  ∃ b o pc cs sc,cells=pc++(cs++sc)∧Elv v (Mo.sz α) i b o∧(∀ w T cs',Row w v T (Mo.sz α) n (pc++(cs'++sc))→cs'.length=Mo.sz α→CellsAt w b o cs')∧Mo.cs μ cs x∧pc.length=i.toNat*Mo.sz α ∧
   (∀ (μ':M) (cs':List Value) (x':α),Le μ μ'→Mo.cs μ' cs' x'→Rw μ' (pc++(cs'++sc)) (l.set i.toNat x'))∧Rw μ (pc++(cs++sc)) l:=by
 obtain ⟨h0,h1,h2⟩:=at_eq g
 obtain ⟨b,o,c,rfl,hc⟩:=h.some' (by omega)
 obtain ⟨pc,cs,sc,rfl,e,m,st⟩:=hr.split h2
 refine ⟨b,o+i.toNat*Mo.sz α,pc,cs,sc,rfl,⟨o,_,_,rfl,h0,by omega,rfl⟩,?_,m,e,st,hr⟩
 intro w2 T2 cs' hk hl j u hj
 obtain ⟨b',o',c',hv,hc'⟩:=hk.some' (by omega)
 simp at hv
 obtain ⟨⟨rfl,rfl⟩,rfl⟩:=hv
 have hjl:j<cs'.length:=(List.getElem?_eq_some_iff.1 hj).1
 have:=hc' (pc.length+j) u (by rw [List.getElem?_append_right (by omega),show pc.length+j - pc.length=j by omega,List.getElem?_append_left hjl]; exact hj)
 rw [e,← Nat.add_assoc] at this
 exact this
theorem open_store {pc cs cs' sc vs:List Value} {i off sz:Nat} (pl:pc.length=i*sz) (h:cs.take off++vs++cs.drop (off+vs.length)=cs') (hl:off+vs.length≤cs.length) :
  (pc++(cs++sc)).take (i*sz+off)++vs++(pc++(cs++sc)).drop (i*sz+off+vs.length)=pc++(cs'++sc):=by
 subst h
 rw [← pl,Nat.add_assoc,List.take_append,List.drop_append]
 simp [List.take_append_of_le_length (show off≤cs.length by omega),List.drop_append_of_le_length hl,List.take_of_length_le (show pc.length≤pc.length+off by omega),List.drop_of_length_le (show pc.length≤pc.length+(off+vs.length) by omega)]
section
variable {P:Program} {Q:Exit→Act→World→Prop} {K:List Value→List Deferred→World→Prop} {fr fr':List Value} {ds:List Deferred} {w:World}
variable {dst:Option Tmp} {ty:TypeId} {pos:String} {after:Array Edge} {g:Option (Nat×Bool)}
variable {w0:World} {rs rs':List Res} {μ μ':M}
variable {T:TypeId}
theorem Mq.two {es:List MapEntry} {c:Nat} {k0 k1:List UInt8} {x0 x1:Int} (h:Mq μ es c [(k0,x0),(k1,x1)]) :
  ∃ n0 n1,es=[⟨S k0,.int .i64 x0,n0⟩,⟨S k1,.int .i64 x1,n1⟩]∧n0<n1∧n1<c:=by
 obtain ⟨hkv,hlt,hinc⟩:=h
 match es,hkv,hlt,hinc with
 | [],hkv,_,_=>simp [Es] at hkv
 | [a],hkv,_,_ =>
  rw [Es] at hkv
  obtain ⟨k,x,t,h1,-,-,h4⟩:=hkv
  simp [Es] at h4 h1
  simp [h4] at h1
 | [a,b],hkv,hlt,hinc =>
  rw [Es] at hkv
  obtain ⟨k,x,t,h1,h2,h3,h4⟩:=hkv
  rw [Es] at h4
  obtain ⟨k',x',t',h1',h2',h3',h4'⟩:=h4
  subst h1'
  simp only [List.cons.injEq,Prod.mk.injEq] at h1
  obtain ⟨⟨rfl,rfl⟩,⟨rfl,rfl⟩,-⟩:=h1
  obtain ⟨ak,av,ab⟩:=a
  obtain ⟨bk,bv,bb⟩:=b
  have h3:av=.int .i64 x0:=h3
  have h3':bv=.int .i64 x1:=h3'
  have h2:ak=S k0:=h2
  have h2':bk=S k1:=h2'
  subst h2 h2' h3 h3'
  have h5:ab<bb:=List.rel_of_pairwise_cons hinc (List.mem_singleton.2 rfl)
  have h6:bb<c:=hlt ⟨S k1,.int .i64 x1,bb⟩ (by simp)
  exact ⟨ab,bb,rfl,h5,h6⟩
 | a::b::d::es,hkv,_,_ =>
  rw [Es] at hkv
  obtain ⟨k,x,t,h1,-,-,h4⟩:=hkv
  rw [Es] at h4
  obtain ⟨k',x',t',h1',-,-,h4'⟩:=h4
  rw [Es] at h4'
  obtain ⟨k'',x'',t'',h1'',-,-,-⟩:=h4'
  subst h1'' h1'
  simp at h1
theorem seen_put (w:World) (b:Nat) (o:Obj) (hlt:b<w.heap.size):Keeps (fun k=>k≠b) w { w with heap:=w.heap.setIfInBounds b o }∧({ w with heap:=w.heap.setIfInBounds b o }:World).heap[b]?=some o :=
 ⟨⟨rfl,rfl,rfl,by simp,fun j _ hj=>by simp [Array.getElem?_setIfInBounds,Ne.symm hj]⟩,by simp [hlt]⟩
theorem s_next0 {x:Operand} {b m c ki k n0 n1:Nat} {a0 v0 a1 v1:Value} (hx:Ev fr x (.pointer (some ⟨b,0,none⟩))) (hS:Sq μ w0 w rs) (hi:Lk rs ki (.mit b m c [] c)) (hm:Lk rs k (.map m [⟨a0,v0,n0⟩,⟨a1,v1,n1⟩] c)) (h01:n0<n1) (h1c:n1<c)
  (hA:∀ w' rs',Pt rs ki (.mit b m c [n0] c) rs'→Sq μ w0 w' rs'→Put fr dst (.tuple ⟨[.bool true,a0,v0]⟩) fun fr'=>K fr' ds w')
  (hB:∀ w' rs',Pt rs ki (.mit b m c [n1] c) rs'→Sq μ w0 w' rs'→Put fr dst (.tuple ⟨[.bool true,a1,v1]⟩) fun fr'=>K fr' ds w') :
  OW P (Oper.mk dst (.next x false) ty pos after g) fr ds w K Q:=by
 have hb:w.heap[b]?=some (.mapIter (some m) c ⟨[]⟩ c):=hS.get hi
 have hb2:w.heap[m]?=some (.map ⟨[⟨a0,v0,n0⟩,⟨a1,v1,n1⟩]⟩ c):=hS.get hm
 have hlt:b<w.heap.size:=(Array.getElem?_eq_some_iff.1 hb).1
 have hbd:w.drew.heap[b]?=some (.mapIter (some m) c ⟨[]⟩ c):=hb
 have h0c:n0<c:=by omega
 have hnc:¬ n0 ≥ c:=by omega
 have hnc1:¬ n1 ≥ c:=by omega
 by_cases hd:(w.tape w.drawn (.mapNext 2)) % 2=0
 ·obtain ⟨hk,hh⟩:=seen_put w.drew b (.mapIter (some m) c ⟨[n0]⟩ c) hlt
  obtain ⟨fr',hd'⟩:=dt_ex fr dst (.tuple ⟨[.bool true,a0,v0]⟩)
  refine op_v (w':={ w.drew with heap:=w.drew.heap.setIfInBounds b (.mapIter (some m) c ⟨[n0]⟩ c) }) ?_ hd' (hA _ _ rfl ((hS.drew (w':=w.drew) rfl rfl rfl rfl).put (b:=b) hi rfl rfl rfl hh hk) fr' hd')
  simp [execOp,hx ds,Instr.next,getObj,setObj,Sem.run,hb,hb2,Result.andThen,h0c,h1c,hnc,hnc1,choose,Question.forced,Question.cut,hd,hbd]
 ·have hd1:(w.tape w.drawn (.mapNext 2)) % 2=1:=by omega
  obtain ⟨hk,hh⟩:=seen_put w.drew b (.mapIter (some m) c ⟨[n1]⟩ c) hlt
  obtain ⟨fr',hd'⟩:=dt_ex fr dst (.tuple ⟨[.bool true,a1,v1]⟩)
  refine op_v (w':={ w.drew with heap:=w.drew.heap.setIfInBounds b (.mapIter (some m) c ⟨[n1]⟩ c) }) ?_ hd' (hB _ _ rfl ((hS.drew (w':=w.drew) rfl rfl rfl rfl).put (b:=b) hi rfl rfl rfl hh hk) fr' hd')
  simp [execOp,hx ds,Instr.next,getObj,setObj,Sem.run,hb,hb2,Result.andThen,h0c,h1c,hnc,hnc1,choose,Question.forced,Question.cut,hd1,hbd]
theorem s_next1 {x:Operand} {b m c ki k n0 n1:Nat} {a0 v0 a1 v1:Value} (hx:Ev fr x (.pointer (some ⟨b,0,none⟩))) (hS:Sq μ w0 w rs) (hi:Lk rs ki (.mit b m c [n0] c)) (hm:Lk rs k (.map m [⟨a0,v0,n0⟩,⟨a1,v1,n1⟩] c)) (h01:n0<n1) (h1c:n1<c)
  (hA:∀ w' rs',Pt rs ki (.mit b m c [n0,n1] c) rs'→Sq μ w0 w' rs'→Put fr dst (.tuple ⟨[.bool true,a1,v1]⟩) fun fr'=>K fr' ds w') :
  OW P (Oper.mk dst (.next x false) ty pos after g) fr ds w K Q:=by
 have hb:w.heap[b]?=some (.mapIter (some m) c ⟨[n0]⟩ c):=hS.get hi
 have hb2:w.heap[m]?=some (.map ⟨[⟨a0,v0,n0⟩,⟨a1,v1,n1⟩]⟩ c):=hS.get hm
 have hlt:b<w.heap.size:=(Array.getElem?_eq_some_iff.1 hb).1
 have hnc:¬ n0 ≥ c:=by omega
 have hnc1:¬ n1 ≥ c:=by omega
 have hall:¬ ∀ (i:Nat) (x:i<2),c≤([⟨a0,v0,n0⟩,⟨a1,v1,n1⟩]:List MapEntry)[i].born:=fun h=>by have:=h 0 (by decide); simp at this; omega
 have hne:¬ n1=n0:=by omega
 have hne':¬ n0=n1:=by omega
 obtain ⟨hk,hh⟩:=seen_put w b (.mapIter (some m) c ⟨[n0,n1]⟩ c) hlt
 obtain ⟨fr',hd'⟩:=dt_ex fr dst (.tuple ⟨[.bool true,a1,v1]⟩)
 refine op_v (w':={ w with heap:=w.heap.setIfInBounds b (.mapIter (some m) c ⟨[n0,n1]⟩ c) }) ?_ hd' (hA _ _ rfl (hS.put (b:=b) hi rfl rfl rfl hh hk) fr' hd')
 simp [execOp,hx ds,Instr.next,getObj,setObj,Sem.run,hb,hb2,Result.andThen,h1c,hnc,hnc1,hne,hne',hall,choose,Question.forced]
theorem s_next1' {x:Operand} {b m c ki k n0 n1:Nat} {a0 v0 a1 v1:Value} (hx:Ev fr x (.pointer (some ⟨b,0,none⟩))) (hS:Sq μ w0 w rs) (hi:Lk rs ki (.mit b m c [n1] c)) (hm:Lk rs k (.map m [⟨a0,v0,n0⟩,⟨a1,v1,n1⟩] c)) (h01:n0<n1) (h1c:n1<c)
  (hA:∀ w' rs',Pt rs ki (.mit b m c [n1,n0] c) rs'→Sq μ w0 w' rs'→Put fr dst (.tuple ⟨[.bool true,a0,v0]⟩) fun fr'=>K fr' ds w') :
  OW P (Oper.mk dst (.next x false) ty pos after g) fr ds w K Q:=by
 have hb:w.heap[b]?=some (.mapIter (some m) c ⟨[n1]⟩ c):=hS.get hi
 have hb2:w.heap[m]?=some (.map ⟨[⟨a0,v0,n0⟩,⟨a1,v1,n1⟩]⟩ c):=hS.get hm
 have hlt:b<w.heap.size:=(Array.getElem?_eq_some_iff.1 hb).1
 have h0c:n0<c:=by omega
 have hnc:¬ n0 ≥ c:=by omega
 have hnc1:¬ n1 ≥ c:=by omega
 have hall:¬ ∀ (i:Nat) (x:i<2),c≤([⟨a0,v0,n0⟩,⟨a1,v1,n1⟩]:List MapEntry)[i].born:=fun h=>by have:=h 0 (by decide); simp at this; omega
 have hne:¬ n1=n0:=by omega
 have hne':¬ n0=n1:=by omega
 obtain ⟨hk,hh⟩:=seen_put w b (.mapIter (some m) c ⟨[n1,n0]⟩ c) hlt
 obtain ⟨fr',hd'⟩:=dt_ex fr dst (.tuple ⟨[.bool true,a0,v0]⟩)
 refine op_v (w':={ w with heap:=w.heap.setIfInBounds b (.mapIter (some m) c ⟨[n1,n0]⟩ c) }) ?_ hd' (hA _ _ rfl (hS.put (b:=b) hi rfl rfl rfl hh hk) fr' hd')
 simp [execOp,hx ds,Instr.next,getObj,setObj,Sem.run,hb,hb2,Result.andThen,h0c,hnc,hnc1,hne,hne',hall,choose,Question.forced]
theorem s_next2 {x:Operand} {b m c ki k n0 n1 p q:Nat} {a0 v0 a1 v1:Value} (hx:Ev fr x (.pointer (some ⟨b,0,none⟩))) (hS:Sq μ w0 w rs) (hi:Lk rs ki (.mit b m c [p,q] c)) (hm:Lk rs k (.map m [⟨a0,v0,n0⟩,⟨a1,v1,n1⟩] c)) (h01:n0<n1) (h1c:n1<c) (hpq:p=n0∧q=n1∨p=n1∧q=n0)
  (hd:Dt fr dst (.tuple ⟨[.bool false]⟩) fr') (h:K fr' ds w) :
  OW P (Oper.mk dst (.next x false) ty pos after g) fr ds w K Q:=by
 have hb:w.heap[b]?=some (.mapIter (some m) c ⟨[p,q]⟩ c):=hS.get hi
 have hb2:w.heap[m]?=some (.map ⟨[⟨a0,v0,n0⟩,⟨a1,v1,n1⟩]⟩ c):=hS.get hm
 have hnc:¬ n0 ≥ c:=by omega
 have hnc1:¬ n1 ≥ c:=by omega
 have hall:¬ ∀ (i:Nat) (x:i<2),c≤([⟨a0,v0,n0⟩,⟨a1,v1,n1⟩]:List MapEntry)[i].born:=fun h=>by have:=h 0 (by decide); simp at this; omega
 have hne:¬ n1=n0:=by omega
 have hne':¬ n0=n1:=by omega
 refine op_v (w':=w) ?_ hd h
 rcases hpq with ⟨rfl,rfl⟩ | ⟨rfl,rfl⟩ <;> simp [execOp,hx ds,Instr.next,getObj,setObj,Sem.run,hb,hb2,Result.andThen,hnc,hnc1,hne,hne',hall,choose,Question.forced]
theorem s_entry {x:Operand} {b m c ki k n0 n1:Nat} {a0 v0 a1 v1:Value} {seen:List Nat} {e:MapEntry} (hx:Ev fr x (.pointer (some ⟨b,0,none⟩))) (hS:Sq μ w0 w rs) (hi:Lk rs ki (.mit b m c seen c)) (hm:Lk rs k (.map m [⟨a0,v0,n0⟩,⟨a1,v1,n1⟩] c)) (h01:n0<n1)
  (hs:seen.getLast?=some e.born) (he:e=⟨a0,v0,n0⟩∨e=⟨a1,v1,n1⟩) (hd:Dt fr dst (.tuple ⟨[e.key,e.val]⟩) fr') (h:K fr' ds w) :
  OW P (Oper.mk dst (.entry x) ty pos after g) fr ds w K Q:=by
 have hb:w.heap[b]?=some (.mapIter (some m) c ⟨seen⟩ c):=hS.get hi
 have hb2:w.heap[m]?=some (.map ⟨[⟨a0,v0,n0⟩,⟨a1,v1,n1⟩]⟩ c):=hS.get hm
 have hne:¬ n1=n0:=by omega
 have hne':¬ n0=n1:=by omega
 have hbk:(⟨seen⟩:Array Nat).back?=some e.born:=by rw [← hs]; simp [Array.back?,List.getLast?_eq_getElem?]
 refine op_v (w':=w) ?_ hd h
 rcases he with rfl | rfl <;> simp [execOp,hx ds,Instr.entry,getObj,Sem.run,hb,hb2,Result.andThen,hbk,hne,hne']
end
end Go.Xt
namespace Go.Xt
open Go.Wk Go.RowKit
section
variable {P:Program} {Q:Exit→Act→World→Prop} {K:List Value→List Deferred→World→Prop} {fr fr':List Value} {ds:List Deferred} {w:World}
variable {dst:Option Tmp} {ty:TypeId} {pos:String} {after:Array Edge} {g:Option (Nat×Bool)}
structure CallsDR (P:Program) (f:FuncId) (args:List Value) (w:World) (R:Value→World→Prop):Prop where
 out:CallsD P f ⟨args⟩ .returning w fun e u' w'=>u'=.returning∧okV R e w'
theorem retDr {fn:Func} {R R1:Value→World→Prop} {k:FuncId} {cap vs:List Value} (hk:IsFn P k) (hc:CallsDR P k (vs++cap) w R1) (h:∀ v w',R1 v w'→PostD P fn R .ret (F fr ds) w') :
  PostD P fn R .ret (F fr (⟨.fn (.func k) ⟨cap⟩,⟨vs⟩⟩::ds)) w:=by
 refine ⟨by simp,.func k,⟨cap⟩,k,⟨vs++cap⟩,rfl,?_,?_⟩
 ·have:=hk.out ⟨vs++cap⟩ w
  simp [invoke,this]
 ·refine hc.out.mono fun e u' w' he=>?_
  obtain ⟨rfl,he⟩:=he
  cases e with
  | returned v=>exact h v w' he
  | panicked c=>exact he.elim
  | outgrown=>exact he.elim
theorem eq_ifc {P:Program} {T:TypeId} {ms:Array (String×TypeId)} {v:Value} {b:Bool} (hu:P.underlying T=some (.interface ms)) (hv:(v=.nilIface∧b=true)∨((∃ a c,v=.iface a c)∧b=false)):EqV P 1 T v .nilIface b:=⟨fun d w hd=>by
 cases d with
 | zero=>omega
 | succ d=>rcases hv with ⟨rfl,rfl⟩ | ⟨⟨a,c,rfl⟩,rfl⟩ <;> simp [Op.equalIn,run_underlying hu]⟩
theorem s_eqni {x:Operand} {t t':TypeId} {v:Value} {b:Bool} {ms:Array (String×TypeId)} (hu:P.underlying t=some (.interface ms)) (hx:Ev fr x v) (hv:(v=.nilIface∧b=true)∨((∃ a c,v=.iface a c)∧b=false)) (hp:Dt fr dst (.bool b) fr') (k:K fr' ds w) :
  OW P (Oper.mk dst (.binOp .eql t x (.const .nilIface) t') ty pos after g) fr ds w K Q:=by
 refine su ⟨fun ds w=>?_⟩ hp k
 have h1:=hx ds
 have h2:(F fr ds).eval (.const .nilIface)=.nilIface:=rfl
 have h3:=(eq_ifc hu hv).out Op.maxDepth w (by decide)
 rcases hv with ⟨rfl,rfl⟩ | ⟨⟨a,c,rfl⟩,rfl⟩ <;> simp [execOp,h1,h2,eqGuard,binOp,Op.equal,h3]
end
end Go.Xt
namespace Go.Xt
open Go.Wk Go.RowKit
def vOf (agg:Bool) (cs:List Value):Value:=if agg then .agg ⟨cs⟩ else cs.headD undef
structure FnOk (P:Program) (μ0:M) (K:Nat) (caps:List Value) {α:Type} [Mo α] (agg:Bool) (pf:α→Option Bool):Prop where
 isfn:IsFn P K
 call:∀ {μ1:M} {w0 w1:World} {rs:List Res} {x:α} {b:Bool} {cs:List Value},Le μ0 μ1→Mo.cs μ1 cs x→pf x=some b→Sq μ1 w0 w1 rs→CallsV P K ([vOf agg cs]++caps) w1 (fun v w'=>∃ μ2,v=.bool b∧Le μ1 μ2∧Sq μ2 w0 w' rs)
theorem FnOk.up {P:Program} {μ μ':M} {K:Nat} {caps:List Value} {α:Type} [Mo α] {agg:Bool} {pf:α→Option Bool} (h:FnOk P μ K caps agg pf) (l:Le μ μ'):FnOk P μ' K caps agg pf:=⟨h.isfn,fun hl=>h.call (l.t hl)⟩
end Go.Xt
namespace Go.Xt
open Go.Wk Go.RowKit
section
variable {P : Program} {Q : Exit → Act → World → Prop} {K : List Value → List Deferred → World → Prop} {fr fr' : List Value} {ds : List Deferred} {w w' : World}
variable {dst : Option Tmp} {ty : TypeId} {pos : String} {after : Array Edge} {g : Option (Nat × Bool)}
variable {w0 : World} {rs rs' : List Res} {μ μ' : M}
variable {T : TypeId} {d : TypeDesc} {ag : Bool} {zc : List Value} {n m : Nat}
theorem _root_.Go.Wk.Sep.newRow {S S0 : Nat → Prop} {A : World → Prop} {v : Value} {sz k : Nat} {xs : List Value} (hS : Sep S S0 w0 w rs A) (hg : Grow w w') (hr : Row w' v T sz k xs) (hb : ∀ b, v.ownBlock = some b → w.heap.size ≤ b) :
    Sep S S0 w0 w' (.row v T sz k xs :: rs) A where
  keeps := hS.keeps.trans hg.keeps
  all r hr' := by
    rcases List.mem_cons.1 hr' with rfl | h
    · exact hr
    · exact (hS.grow hg).all r h
  dis := by
    cases hv : v.ownBlock with
    | none => simp only [blocks, List.filterMap_cons, Res.block, hv]; exact hS.dis
    | some b =>
      simp only [blocks, List.filterMap_cons, Res.block, hv, List.nodup_cons]
      exact ⟨fun hm => by have := hS.lt hm; have := hb b hv; omega, hS.dis⟩
  new b hm := by
    cases hv : v.ownBlock with
    | none => simp only [blocks, List.filterMap_cons, Res.block, hv] at hm; exact hS.new b hm
    | some b' =>
      simp only [blocks, List.filterMap_cons, Res.block, hv, List.mem_cons] at hm
      rcases hm with rfl | hm
      · exact .inl (Nat.le_trans hS.keeps.size (hb _ hv))
      · exact hS.new b hm
  imm := fun w'' h1 h2 => hS.imm w'' (Nat.le_trans hg.size h1) fun k hk hs => (h2 k (Nat.lt_of_lt_of_le hk hg.size) ⟨hs.1, fun hm => by
    cases hv : v.ownBlock with
    | none => simp only [blocks, List.filterMap_cons, Res.block, hv] at hm; exact hs.2 hm
    | some b' =>
      simp only [blocks, List.filterMap_cons, Res.block, hv, List.mem_cons] at hm
      rcases hm with rfl | hm
      · have := hb _ hv; omega
      · exact hs.2 hm⟩).trans (hg.blk k hk trivial)
theorem row_of_owns {e : TypeId} {sz k base : Nat} {v : Value} {xs : List Value} (h : w.ownsRow base e sz v k xs) : Row w v e sz k xs ∧ ∀ b, v.ownBlock = some b → base ≤ b := by
  obtain ⟨h1, h2⟩ := h
  rcases h2 with ⟨rfl, rfl⟩ | ⟨g, cap, cur, rfl, hb, hg, h3, h4, h5, h6⟩
  · exact ⟨⟨h1, .inl ⟨rfl, rfl⟩⟩, fun b hb => by simp [Value.ownBlock] at hb⟩
  · exact ⟨⟨h1, .inr ⟨g, 0, cap, cur, rfl, hg, h3, h4, by omega, by simpa using h6⟩⟩, fun b hb' => by simp [Value.ownBlock] at hb'; omega⟩
def mks (n : Int) : Option Nat := if 0 ≤ n ∧ n ≤ 65536 then some n.toNat else none
theorem mks_eq {n : Int} {k : Nat} (h : mks n = some k) : n = k ∧ k ≤ 65536 := by
  unfold mks at h
  split at h
  · rename_i hc
    have := Option.some.inj h
    omega
  · cases h
theorem madeOnes (z : Value) (k : Nat) : madeCells #[z] k = (List.replicate k z).toArray := by
  apply Array.ext'
  simp only [madeCells, Array.toList_map, Array.toList_range]
  apply List.ext_getElem?
  intro i
  simp only [List.getElem?_map, List.getElem?_range', List.getElem?_replicate]
  by_cases h : i < k
  · simp [h, Nat.mod_one]
  · simp [h]
theorem s_mkslice {x y : Operand} {e : TypeId} {z : Value} {bytes k : Nat} {kl kc : IntKind} {n : Int} (hT : P.underlying T = some (.slice e)) (hE : TI P e ag [z] 1 bytes) (hb : bytes ≤ 4096) (hx : Ev fr x (.int kl n)) (hy : Ev fr y (.int kc n)) (gk : mks n = some k) (hS : Sq μ w0 w rs)
    (h : ∀ b w', Sq μ w0 w' (.row (.slice (some ⟨b, 0, none⟩) k k) e 1 k (List.replicate k z) :: rs) → Put fr dst (.slice (some ⟨b, 0, none⟩) k k) fun fr' => K fr' ds w') :
    OW P (Oper.mk dst (.makeSlice T x y) ty pos after g) fr ds w K Q := by
  obtain ⟨rfl, hk⟩ := mks_eq gk
  obtain ⟨i, zz, hi, hiz, hzc, hsz, hby⟩ := hE.inf
  have hm : i.bytes * k ≤ 4096 * 65536 := Nat.mul_le_mul (by omega) hk
  have hr := run_make (P := P) w T e i zz hT hi hiz kl kc k k (by omega) (Int.le_refl _) (by have : ((i.bytes * k : Nat) : Int) ≤ 281474976710656 := by omega
                                                                                             rwa [Int.natCast_mul] at this) (by omega)
  simp only [Int.toNat_natCast, hsz, Nat.mul_one, hzc] at hr
  rw [madeOnes] at hr
  obtain ⟨fr', hd⟩ := dt_ex fr dst (.slice (some ⟨w.heap.size, 0, none⟩) k k)
  refine op_v (w' := w.alloc (.cells (List.replicate k z).toArray e)) ?_ hd (h _ _ (hS.alloc rfl ⟨by simp, .inr ⟨_, 0, _, _, rfl, heap_alloc_new w _, Nat.le_refl _, by simp only [maxLen]; omega, by simp, by simp⟩⟩) fr' hd)
  simp only [execOp, hx ds, hy ds, Sem.run_bind, hr, Result.andThen_ok, Sem.run_pure]
theorem rw_rep {α : Type} [Mo α] {z : Value} {x : α} (h : ∀ μ : M, Mo.cs μ [z] x) : ∀ k, Rw μ (List.replicate k z) (List.replicate k x)
  | 0 => rfl
  | k + 1 => ⟨[z], _, rfl, h μ, rw_rep h k⟩
theorem eq_sl {t e : TypeId} {v : Value} {a : Option Addr} {k c : Nat} (hu : P.underlying t = some (.slice e)) : EqV P 1 t (.slice a k c) (.slice none 0 0) a.isNone := ⟨fun d w hd => by
  cases d with
  | zero => omega
  | succ d => cases a <;> simp [Op.equalIn, run_underlying hu]⟩
theorem s_eqnsl {x : Operand} {t t' e : TypeId} {a : Option Addr} {k c : Nat} (hu : P.underlying t = some (.slice e)) (hx : Ev fr x (.slice a k c)) (hp : Dt fr dst (.bool a.isNone) fr') (h : K fr' ds w) :
    OW P (Oper.mk dst (.binOp .eql t x (.const (.slice none 0 0)) t') ty pos after g) fr ds w K Q := by
  refine su ⟨fun ds w => ?_⟩ hp h
  have h1 := hx ds
  have h2 : (F fr ds).eval (.const (.slice none 0 0)) = .slice none 0 0 := rfl
  have h3 := (eq_sl (v := .nilIface) (a := a) (k := k) (c := c) hu).out Op.maxDepth w (by decide)
  simp [execOp, h1, h2, eqGuard, binOp, Op.equal, h3]
def small {α : Type} (l : List α) : Option Unit := if l.length ≤ 65536 then some () else none
theorem small_eq {α : Type} {l : List α} {u : Unit} (h : small l = some u) : l.length ≤ 65536 := by
  unfold small at h
  split at h
  · assumption
  · cases h
theorem Rw.take' {α : Type} [Mo α] : ∀ {l : List α} {cells : List Value} (i : Nat), Rw μ cells l → Rw μ (cells.take (i * Mo.sz α)) (l.take i)
  | [], cells, i, h => by rw [Rw] at h; subst h; simp [Rw]
  | x :: l, cells, 0, h => by simp [Rw]
  | x :: l, cells, i + 1, h => by
    rw [Rw] at h
    obtain ⟨cs, t, rfl, h1, h2⟩ := h
    rw [List.take_succ_cons, Rw]
    refine ⟨cs, t.take (i * Mo.sz α), ?_, h1, Rw.take' i h2⟩
    have e : (i + 1) * Mo.sz α = cs.length + i * Mo.sz α := by rw [Nat.add_mul, Mo.ln h1]; omega
    rw [e, List.take_append]
    simp [List.take_of_length_le (show cs.length ≤ cs.length + i * Mo.sz α by omega)]
theorem Row.cutT {α : Type} [Mo α] {v : Value} {cells : List Value} {l l' : List α} {j : Int} (h : Row w v T (Mo.sz α) l.length cells) (hm : Rw μ cells l) (g : cut l 0 j = some l') :
    ∃ v' cells', Slc v (Mo.sz α) none (some j) v' ∧ v'.ownBlock = v.ownBlock ∧ (∀ w T, Row w v T (Mo.sz α) l.length cells → Row w v' T (Mo.sz α) l'.length cells') ∧ Rw μ cells' l' := by
  obtain ⟨⟨h0, h1, h2⟩, rfl⟩ := cut_eq g
  obtain ⟨v', e1, e2, e3⟩ := Row.cutTo h h1 h2
  refine ⟨v', cells.take (j.toNat * Mo.sz α), e1, e2, fun w T hk => ?_, by simpa using hm.take' j.toNat⟩
  have := e3 w T hk
  have hl : ((l.take j.toNat).drop (0 : Int).toNat).length = j.toNat := by simp; omega
  rw [hl]
  exact this
theorem run_inv {recv : Operand} {xs : List Operand} {tys : Array TypeId} {name : String} {k : FuncId} {t : TypeId} {pv : Value} {vs : List Value} (hm : ∀ w, (method (P.types.size + Made.depth) t pv name).run P w = .ok (k, pv) w) (hk : IsFn P k) (hf : Ev fr recv (.iface t pv)) (hs : Evs fr xs vs) :
    (execOp (F fr ds).eval (Oper.mk dst (.call { callee := .invoke recv name, args := ⟨xs⟩, argTypes := tys }) ty pos after g)).run P w = .ok (.enter k ⟨pv :: vs⟩) w := by
  have h1 := hf ds
  have h2 := hs ds
  have hk' := hk.out ⟨pv :: vs⟩ w
  have hm' := hm w
  simp [execOp, resolve, h1, invoke, callMethod, h2, hk', hm']
theorem s_callI {recv : Operand} {xs : List Operand} {tys : Array TypeId} {name : String} {k : FuncId} {t : TypeId} {pv : Value} {vs : List Value} {R : Value → World → Prop} (hm : ∀ w, (method (P.types.size + Made.depth) t pv name).run P w = .ok (k, pv) w) (hk : IsFn P k) (hf : Ev fr recv (.iface t pv)) (hs : Evs fr xs vs)
    (hc : CallsV P k (pv :: vs) w R) (h : ∀ v w', R v w' → Put fr dst v fun fr' => K fr' ds w') : OW P (Oper.mk dst (.call { callee := .invoke recv name, args := ⟨xs⟩, argTypes := tys }) ty pos after g) fr ds w K Q :=
  op_call (args := pv :: vs) (run_inv hm hk hf hs) hc h
theorem u_mkif {x : Operand} {e : TypeId} {b : Nat} (hu : P.underlying T = some (.pointer e)) (hx : Ev fr x (.pointer (some ⟨b, 0, none⟩))) : PU P (Oper.mk dst (.makeInterface T x) ty pos after g) fr (.iface T (.pointer (some ⟨b, 0, none⟩))) := ⟨fun ds w => by
  have h1 := hx ds
  simp [execOp, h1, Instr.makeInterface, run_underlying hu]⟩
theorem s_mkif {x : Operand} {e : TypeId} {b : Nat} (hu : P.underlying T = some (.pointer e)) (hx : Ev fr x (.pointer (some ⟨b, 0, none⟩))) (hp : Dt fr dst (.iface T (.pointer (some ⟨b, 0, none⟩))) fr') (h : K fr' ds w) : OW P (Oper.mk dst (.makeInterface T x) ty pos after g) fr ds w K Q := su (u_mkif hu hx) hp h
end
end Go.Xt
namespace Go.Xt
open Go.Wk Go.RowKit
section
variable {P:Program} {Q:Exit→Act→World→Prop} {K:List Value→List Deferred→World→Prop} {fr fr':List Value} {ds:List Deferred} {w w':World}
variable {dst:Option Tmp} {ty:TypeId} {pos:String} {after:Array Edge} {g:Option (Nat×Bool)}
variable {w0:World} {rs rs':List Res} {μ μ':M}
variable {T:TypeId} {d:TypeDesc} {ag:Bool} {zc:List Value} {n m:Nat}
def remt (a b:Int):Option Int:=if b=0 then none else some (a.tmod b)
theorem remt_nz {a b c:Int} (h:remt a b=some c):b≠0∧a.tmod b=c:=by
 unfold remt at h
 split at h
 ·cases h
 ·rename_i hb
  exact ⟨hb,Option.some.inj h⟩
theorem Elv.uniq {v:Value} {sz:Nat} {i:Int} {b o b' o':Nat} (h:Elv v sz i b o) (h':Elv v sz i b' o'):b=b'∧o=o':=by
 obtain ⟨o0,n,c,rfl,_,_,rfl⟩:=h.out
 obtain ⟨o1,n1,c1,he,_,_,rfl⟩:=h'.out
 cases he
 exact ⟨rfl,rfl⟩
theorem row_lset {α:Type} {w:World} {v:Value} {T sz i:Nat} {x:α} {l:List α} {cs:List Value} (h:Row w v T sz (l.set i x).length cs):Row w v T sz l.length cs:=by
 rwa [List.length_set] at h
theorem set_same {α:Type} {l:List α} {k:Nat} {x:α} (h:l[k]?=some x):l.set k x=l:=by
 apply List.ext_getElem?
 intro i
 rw [List.getElem?_set]
 split
 ·rename_i e; subst e
  rw [if_pos (List.getElem?_eq_some_iff.1 h).1,h]
 ·rfl
def cpy {α:Type} (l ys:List α):List α:=ys.take l.length++l.drop ys.length
theorem cpy_len {α:Type} (l ys:List α):(cpy l ys).length=l.length:=by simp [cpy]; omega
theorem rw_cpy {α:Type} [Mo α] (hsz:Mo.sz α=1) {l ys:List α} {cells news:List Value} (h:Rw μ cells l) (k:Rw μ news ys):Rw μ (news.take l.length++cells.drop ys.length) (cpy l ys):=by
 have h1:=k.take' l.length
 have h2:=h.drop ys.length
 rw [hsz,Nat.mul_one] at h1 h2
 exact Rw.cat h2 h1
theorem s_copy {α:Type} [Mo α] {t t':TypeId} {x y:Operand} {v:Value} {bytes k c:Nat} {a:Option Addr} {cells news:List Value} {l ys:List α} (hsz:Mo.sz α=1) (ht:P.underlying t=some (.slice T)) (hE:TI P T ag zc 1 bytes)
  (hx:Ev fr x v) (hy:Ev fr y (.slice a ys.length c)) (hS:Sq μ w0 w rs) (hl:Lk rs k (.row v T 1 l.length cells)) (hr:Rw μ cells l) (hm:Rw μ news ys) (hnews:ys≠[]→∃ b o,a=some ⟨b,o,none⟩∧At μ b o news)
  (h:∀ n w' rs',Pt rs k (.row v T 1 l.length (news.take l.length++cells.drop ys.length)) rs'→Sq μ w0 w' rs'→Put fr dst (.int .i64 n) fun fr'=>K fr' ds w') :
  OW P (Oper.mk dst (.call { callee:=.builtin .copy,args:=#[x,y],argTypes:=#[t,t'] }) ty pos after g) fr ds w K Q:=by
 have hrow:Row w v T 1 l.length cells:=hS.get hl
 have hnl:news.length=ys.length:=by have:=hm.len; rw [hsz] at this; omega
 have hs1:(P.info? T).map (·.size)=some 1:=by
  obtain ⟨i,z,hi,-,-,h4,-⟩:=hE.inf
  rw [hi]; simp [h4]
 have run:∀ {r:Int} {w'},(Builtin.copy_ #[t,t'] ty #[v,.slice a ys.length c]).run P w=.ok (.int .i64 r) w' →
   (execOp (F fr ds).eval (Oper.mk dst (.call { callee:=.builtin .copy,args:=#[x,y],argTypes:=#[t,t'] }) ty pos after g)).run P w=.ok (.value (.int .i64 r)) w':=fun hr=>by
  have h1:=hx ds
  have h2:=hy ds
  simp [execOp,resolve,invoke,builtin,h1,h2,hr]
 by_cases h0:ys.length=0∨l.length=0
 ·obtain ⟨fr',hd⟩:=dt_ex fr dst (.int .i64 (0:Nat))
  have hmin:Nat.min ys.length l.length=0:=by rcases h0 with h0 | h0 <;> simp [h0,Nat.min_def] <;> omega
  have hcells:news.take l.length++cells.drop ys.length=cells:=by
   have hc:=hr.len
   rw [hsz] at hc
   rcases h0 with h0 | h0
   ·rw [h0] at hnl ⊢
    simp [List.eq_nil_of_length_eq_zero hnl]
   ·simp [h0,List.eq_nil_of_length_eq_zero (show cells.length=0 by omega)]
  obtain ⟨aa,nn,cc,rfl,hnn⟩:∃ aa nn cc,v=.slice aa nn cc∧nn=l.length:=by
   rcases hrow.2 with ⟨rfl,hz⟩ | ⟨g,o,cap,cur,rfl,-⟩
   ·exact ⟨none,0,0,rfl,hz.symm⟩
   ·exact ⟨_,_,_,rfl,rfl⟩
  subst hnn
  refine op_v (w':=w) (run (r:=((0:Nat):Int)) ?_) hd (h _ w rs ?_ hS fr' hd)
  ·have:=run_copy_none (P:=P) w t t' ty T aa a l.length cc ys.length c ht hs1 hmin
   simpa [goInt] using this
  ·rw [hcells]
   unfold Pt Lk at *
   exact set_same hl
 ·have hy0:ys≠[]:=fun e=>h0 (.inl (by simp [e]))
  obtain ⟨b2,o2,rfl,hat⟩:=hnews hy0
  have hcl:=hr.len
  rw [hsz,Nat.mul_one] at hcl
  rcases hrow.2 with ⟨rfl,hz⟩ | ⟨gg,o,cap,cur,rfl,hg,hc1,hc2,hc3,hc4⟩
  ·exact absurd (.inr hz) h0
  ·obtain ⟨fr',hd⟩:=dt_ex fr dst (.int .i64 ((news.take l.length).length:Nat))
   have hcsl:(news.take l.length).length≤l.length:=by simp; omega
   have hbk:Blk w gg T cur.toList:=hg
   have hall:=hm.cv
   have hrun:=run_copy_row (P:=P) w t t' ty T gg o l.length cap ⟨b2,o2,none⟩ ys.length c cur T (news.take l.length) ht hs1 hg (by simp [hnl,Nat.min_comm]) (fun j u hj=>by
    rw [List.getElem?_take] at hj
    split at hj
    ·have:=hat w hS.a j u hj
     rwa [add_addr]
    ·cases hj) (by omega) (fun u hu=>cell_one (List.all_eq_true.1 hall u (List.mem_of_mem_take hu)))
   have key:Keeps (fun k=>k≠gg) w (w.setRow gg (cur.toList.take o++news.take l.length++cur.toList.drop (o+(news.take l.length).length)).toArray):=⟨rfl,rfl,rfl,by simp [World.setRow],fun k hk hs=>setRow_other w gg k _ hs⟩
   refine op_v (w':=w.setRow gg (cur.toList.take o++news.take l.length++cur.toList.drop (o+(news.take l.length).length)).toArray) (run (r:=((news.take l.length).length:Nat)) (by rw [hrun]; rfl)) hd (h _ _ _ rfl (hS.put (b:=gg) hl rfl rfl rfl ?_ key) fr' hd)
   refine ⟨by simp; omega,.inr ⟨gg,o,cap,_,rfl,setRow_heap w gg ⟨cur.toList⟩ _ T (0,0) hbk,hc1,hc2,?_,?_⟩⟩
   ·simp; omega
   ·have:=drop_splice cur.toList (news.take l.length) o 0 (l.length*1) (by omega) (by simp; omega)
    simp only [Nat.add_zero,List.take_zero,List.nil_append,Nat.zero_add] at this
    rw [List.toList_toArray,this,hc4]
    congr 1
    by_cases hle:ys.length≤l.length
    ·simp [hnl,Nat.min_eq_right hle]
    ·rw [List.drop_eq_nil_of_le (by simp; omega),List.drop_eq_nil_of_le (by omega)]
theorem u_mini {x y:Operand} {t t':TypeId} {d:TypeDesc} {a b:Int} (hu:P.underlying t=some d) (hx:Ev fr x (.int .i64 a)) (hy:Ev fr y (.int .i64 b)):PU P (Oper.mk dst (.call { callee:=.builtin .min,args:=#[x,y],argTypes:=#[t,t'] }) ty pos after g) fr (.int .i64 (min a b)):=⟨fun ds w=>by
 have h1:=hx ds
 have h2:=hy ds
 have e:min a b=if b<a then b else a:=by simp only [Int.min_def]; split <;> split <;> omega
 rw [e]
 by_cases h:b<a <;> simp [execOp,resolve,invoke,builtin,h1,h2,Builtin.min_,Builtin.min2,h]⟩
theorem u_maxi {x y:Operand} {t t':TypeId} {d:TypeDesc} {a b:Int} (hu:P.underlying t=some d) (hx:Ev fr x (.int .i64 a)) (hy:Ev fr y (.int .i64 b)):PU P (Oper.mk dst (.call { callee:=.builtin .max,args:=#[x,y],argTypes:=#[t,t'] }) ty pos after g) fr (.int .i64 (max a b)):=⟨fun ds w=>by
 have h1:=hx ds
 have h2:=hy ds
 have e:max a b=if a<b then b else a:=by simp only [Int.max_def]; split <;> split <;> omega
 rw [e]
 by_cases h:a<b <;> simp [execOp,resolve,invoke,builtin,h1,h2,Builtin.max_,Builtin.max2,h]⟩
theorem s_mini {x y:Operand} {t t':TypeId} {d:TypeDesc} {a b:Int} (hu:P.underlying t=some d) (hx:Ev fr x (.int .i64 a)) (hy:Ev fr y (.int .i64 b)) (hp:Dt fr dst (.int .i64 (min a b)) fr') (h:K fr' ds w):OW P (Oper.mk dst (.call { callee:=.builtin .min,args:=#[x,y],argTypes:=#[t,t'] }) ty pos after g) fr ds w K Q:=su (u_mini hu hx hy) hp h
theorem s_maxi {x y:Operand} {t t':TypeId} {d:TypeDesc} {a b:Int} (hu:P.underlying t=some d) (hx:Ev fr x (.int .i64 a)) (hy:Ev fr y (.int .i64 b)) (hp:Dt fr dst (.int .i64 (max a b)) fr') (h:K fr' ds w):OW P (Oper.mk dst (.call { callee:=.builtin .max,args:=#[x,y],argTypes:=#[t,t'] }) ty pos after g) fr ds w K Q:=su (u_maxi hu hx hy) hp h
theorem nilfe {t:TypeId} {ps rs:Array TypeId} {vr:Bool} (hu:P.underlying t=some (.func ps rs vr)):EqV P 1 t .nilFunc .nilFunc true:=⟨fun d w hd=>by
 cases d with
 | zero=>omega
 | succ d=>simp [Op.equalIn,run_underlying hu]⟩
theorem nilpe {t e:TypeId} (hu:P.underlying t=some (.pointer e)):EqV P 1 t (.pointer none) (.pointer none) true:=⟨fun d w hd=>by
 cases d with
 | zero=>omega
 | succ d=>simp [Op.equalIn,run_underlying hu]⟩
theorem u_nilfneq {x:Operand} {t t':TypeId} {ps rs:Array TypeId} {vr:Bool} (hu:P.underlying t=some (.func ps rs vr)) (hx:Ev fr x .nilFunc):PU P (Oper.mk dst (.binOp .neq t x (.const .nilFunc) t') ty pos after g) fr (.bool false):=⟨fun ds w=>by
 have h1:=hx ds
 have h2:(F fr ds).eval (.const .nilFunc)=.nilFunc:=rfl
 have h3:=(nilfe hu).out Op.maxDepth w (by decide)
 simp [execOp,h1,h2,eqGuard,binOp,Op.equal,h3]⟩
theorem s_nilfneq {x:Operand} {t t':TypeId} {ps rs:Array TypeId} {vr:Bool} (hu:P.underlying t=some (.func ps rs vr)) (hx:Ev fr x .nilFunc) (hp:Dt fr dst (.bool false) fr') (h:K fr' ds w):OW P (Oper.mk dst (.binOp .neq t x (.const .nilFunc) t') ty pos after g) fr ds w K Q:=su (u_nilfneq hu hx) hp h
theorem u_nilpeql {x:Operand} {t t' e:TypeId} (hu:P.underlying t=some (.pointer e)) (hx:Ev fr x (.pointer none)):PU P (Oper.mk dst (.binOp .eql t x (.const (.pointer none)) t') ty pos after g) fr (.bool true):=⟨fun ds w=>by
 have h1:=hx ds
 have h2:(F fr ds).eval (.const (.pointer none))=.pointer none:=rfl
 have h3:=(nilpe hu).out Op.maxDepth w (by decide)
 simp [execOp,h1,h2,eqGuard,binOp,Op.equal,h3]⟩
theorem s_nilpeql {x:Operand} {t t' e:TypeId} (hu:P.underlying t=some (.pointer e)) (hx:Ev fr x (.pointer none)) (hp:Dt fr dst (.bool true) fr') (h:K fr' ds w):OW P (Oper.mk dst (.binOp .eql t x (.const (.pointer none)) t') ty pos after g) fr ds w K Q:=su (u_nilpeql hu hx) hp h
end
end Go.Xt
namespace Go.Xt
open Go.Wk Go.RowKit
section
variable {P:Program} {Q:Exit→Act→World→Prop} {K:List Value→List Deferred→World→Prop} {fr fr':List Value} {ds:List Deferred} {w w':World}
variable {dst:Option Tmp} {ty:TypeId} {pos:String} {after:Array Edge} {g:Option (Nat×Bool)}
variable {w0:World} {rs rs':List Res} {μ μ':M}
variable {T:TypeId} {d:TypeDesc} {ag:Bool} {zc:List Value} {n m:Nat}
def mksp (n:Int):Option Nat:=if 0<n∧n≤65536 then some n.toNat else none
theorem mksp_eq {n:Int} {k:Nat} (h:mksp n=some k):n=k∧0<k∧k≤65536:=by
 unfold mksp at h
 split at h
 ·rename_i hc
  have:=Option.some.inj h
  omega
 ·cases h
theorem u_cap0 {x:Operand} {t e:TypeId} (ht:P.underlying t=some (.slice e)) (hx:Ev fr x (.slice none 0 0)):PU P (Oper.mk dst (.call { callee:=.builtin .cap,args:=#[x],argTypes:=#[t] }) ty pos after g) fr ((.int .i64 0)):=by
 refine ⟨fun ds w=>?_⟩
 have h1:=hx ds
 simp [execOp,h1,resolve,invoke,builtin,Builtin.cap_,run_underlying ht,goInt]
theorem s_cap0 {x:Operand} {t e:TypeId} (ht:P.underlying t=some (.slice e)) (hx:Ev fr x (.slice none 0 0)) (hp:Dt fr dst ((.int .i64 0)) fr') (h:K fr' ds w):OW P (Oper.mk dst (.call { callee:=.builtin .cap,args:=#[x],argTypes:=#[t] }) ty pos after g) fr ds w K Q:=su (u_cap0 ht hx) hp h
theorem slc_nil {sz:Nat}:Slc (.slice none 0 0) sz none (some 0) (.slice none 0 0):=⟨none,0,0,rfl,by decide,by decide,by decide,rfl⟩
theorem zeros_flat (z:List Value):∀ k,(Builtin.zeroCells z.toArray k).toList=(List.replicate k z).flatten:=by
 intro k
 simp only [Builtin.zeroCells,Array.toList_map,Array.toList_range,List.size_toArray]
 induction k with
 | zero=>simp
 | succ k ih =>
  rw [List.replicate_succ',List.flatten_append,← ih,Nat.add_mul,Nat.one_mul,List.range_add,List.map_append,List.flatten_cons,List.flatten_nil,List.append_nil,List.map_map]
  congr 1
  apply List.ext_getElem?
  intro i
  rw [List.getElem?_map]
  by_cases hi:i<z.length
  ·rw [List.getElem?_range hi]
   simp [Nat.mod_eq_of_lt hi,hi]
  ·rw [List.getElem?_eq_none (by simp; omega),List.getElem?_eq_none (by omega)]
   rfl
theorem rw_repz {α:Type} [Mo α] {z:List Value} {x:α} (h:∀ μ:M,Mo.cs μ z x):∀ k,Rw μ (List.replicate k z).flatten (List.replicate k x)
 | 0=>rfl
 | k+1=>⟨z,_,rfl,h μ,rw_repz h k⟩
theorem s_appz {t tn e:TypeId} {x y:Operand} {z:List Value} {sz bytes k:Nat} {kn:IntKind} {n:Int} (hT:P.underlying t=some (.slice e)) (hN:P.underlying tn=some (.int kn)) (hE:TI P e ag z sz bytes) (hb:(decide (bytes≤4096) && (z.length == sz && decide (0<sz)))=true)
  (hx:Ev fr x (.slice none 0 0)) (hy:Ev fr y (.int kn n)) (gk:mksp n=some k) (hS:Sq μ w0 w rs)
  (h:∀ b c w',Sq μ w0 w' (.row (.slice (some ⟨b,0,none⟩) k c) e sz k (List.replicate k z).flatten::rs)→Put fr dst (.slice (some ⟨b,0,none⟩) k c) fun fr'=>K fr' ds w') :
  OW P (Oper.mk dst (.call { callee:=.builtin .append,args:=#[x,y],argTypes:=#[t,tn] }) ty pos after g) fr ds w K Q:=by
 obtain ⟨rfl,h0,hk⟩:=mksp_eq gk
 simp only [Bool.and_eq_true,beq_iff_eq,decide_eq_true_eq] at hb
 obtain ⟨hby0,hzl,hs0⟩:=hb
 obtain ⟨i,zz,hi,hiz,hzc,hsz,hby⟩:=hE.inf
 subst hsz
 subst hby
 have h48:k*i.bytes≤65536*4096:=Nat.mul_le_mul hk hby0
 have hr:=Go.Lib.run_append_nil_zeros (P:=P) w t tn ty e i zz kn kn hT hN hi hiz k h0 hs0 (by omega) (by omega)
 obtain ⟨fr',hd⟩:=dt_ex fr dst (.slice (some ⟨w.heap.size,0,none⟩) k (grownCap w k 0 e))
 have hge:=grownCap_ge w k 0 e
 have hcm:grownCap w k 0 e≤maxLen:=grownCap_le_maxLen w k 0 e (by unfold maxLen; omega)
 have hzz:zz.cells=z.toArray:=hzc
 have hfl:((List.replicate k z).flatten).length=k*i.size:=by
  simp [hzl]
 have e1:=hx ds
 have e2:=hy ds
 have hmul:k*i.size≤grownCap w k 0 e*i.size:=Nat.mul_le_mul_right _ hge
 refine op_v (v:=.slice (some ⟨w.heap.size,0,none⟩) k (grownCap w k 0 e)) (w':=w.drew.alloc (.cells (Builtin.zeroCells zz.cells k++Builtin.zeroCells zz.cells (grownCap w k 0 e - k)) e)) ?_ hd (h _ _ _ ((hS.drew (w':=w.drew) rfl rfl rfl rfl).alloc rfl ⟨hfl,.inr ⟨_,0,_,_,rfl,heap_alloc_new w.drew _,hge,hcm,?_,?_⟩⟩) fr' hd)
 ·simp [execOp,resolve,invoke,builtin,e1,e2,hr]
 ·simp only [Array.size_append,size_zeroCells,hzz,List.size_toArray,hzl,← Nat.add_mul,Nat.zero_add]
  exact Nat.mul_le_mul_right _ (by omega)
 ·rw [hzz,Array.toList_append,zeros_flat,List.drop_zero,← hfl]
  exact List.take_left
end
end Go.Xt
namespace Go.Xt
open Go.Wk Go.RowKit
theorem xT {α:Type} {c:Prop} [Decidable c] {y:Option α} {r:α} {G:Prop} (h:(if c then none else y)=some r) (hc:c):G:=by rw [if_pos hc] at h; cases h
theorem xF {α:Type} {c:Prop} [Decidable c] {x:Option α} {r:α} {G:Prop} (h:(if c then x else none)=some r) (hc:¬ c):G:=by rw [if_neg hc] at h; cases h
section
variable {P:Program} {Q Q':Exit→Act→World→Prop} {fr fr':List Value} {ds:List Deferred} {w:World} {ops:Array Oper} {y:Code} {id:Nat} {l:List Oper}
theorem nw (h:CW P y Q' fr ds w):WL P ops (Exit.then (Nx P y Q') Q) [] fr ds w:=wnil (xn h)
theorem nu (h:CW P y Q' fr ds w):SC P ops (Exit.then (Nx P y Q') Q) [] fr ds w:=sc_nil (xn h)
theorem nz (h:WL P l.toArray (Exit.then (Nx P y Q) Q) l fr ds w):CW P (.seq (.region id l.toArray false) y) Q fr ds w:=cseq (creg h)
theorem nx (h:WL P l.toArray (Exit.then (Nx P y Q') Q') l fr ds w):WL P ops (Exit.then (Nx P (.seq (.region id l.toArray false) y) Q') Q) [] fr ds w:=wnil (xn (cseq (creg h)))
theorem ny {x:Code} (h:CW P x (Exit.then (Nx P y Q') Q') fr ds w):WL P ops (Exit.then (Nx P (.seq x y) Q') Q) [] fr ds w:=wnil (xn (cseq h))
variable {R R':List Nat} {dst:Tmp} {op:Op} {ty:TypeId} {pos:String} {after:Array Edge} {v:Value} {Ns:List Mon} {j d:Nat} {b b':Bool}
theorem cp (i:Nat) (he:(decide R.Nodup && enabled ops R i && apart ops false R i,R.erase i,ops[i]?)=(true,R',some ⟨some dst,op,ty,pos,after,none⟩)) (hv:PU P ⟨some dst,op,ty,pos,after,none⟩ fr v) (hp:Pt fr dst v fr') (h:SC P ops Q R' fr' ds w) (hQ:Blind Q:=by first | exact blind_of fun _ _ _ h=>h | exact blind_of fun _ _ _ h=>h.2 | exact blind_of fun _ _ _ h=>h.2.2):SC P ops Q R fr ds w:=sc_pu hQ (congrArg (·.1) he) (congrArg (·.2.1) he) (congrArg (·.2.2) he) hv hp h
theorem cpY (i:Nat) (he:(decide R.Nodup && enabled ops R i && apartG ops false R i,R.erase i,ops[i]?)=(true,R',some ⟨some dst,op,ty,pos,after,some (j,b)⟩)) (hj:(ops[j]?).bind (·.dst)=some d) (hl:Lk fr d (.bool b)) (hv:PU P ⟨some dst,op,ty,pos,after,some (j,b)⟩ fr v) (hp:Pt fr dst v fr') (h:SC P ops Q R' fr' ds w) (hQ:Blind Q:=by first | exact blind_of fun _ _ _ h=>h | exact blind_of fun _ _ _ h=>h.2 | exact blind_of fun _ _ _ h=>h.2.2):SC P ops Q R fr ds w:=sc_puY hQ (congrArg (·.1) he) (congrArg (·.2.1) he) (congrArg (·.2.2) he) hj hl hv hp h
theorem cr (i:Nat) (S:List Nat) (he:(decide R.Nodup && enabled ops R i && waits ops R S i && apartS ops S R i,R.erase i,ops[i]?)=(true,R',some ⟨some dst,op,ty,pos,after,none⟩)) (hv:LU P ⟨some dst,op,ty,pos,after,none⟩ fr w v) (hp:Pt fr dst v fr') (h:SC P ops Q R' fr' ds w) (hQ:Blind Q:=by first | exact blind_of fun _ _ _ h=>h | exact blind_of fun _ _ _ h=>h.2 | exact blind_of fun _ _ _ h=>h.2.2):SC P ops Q R fr ds w:=sc_rdS S hQ (congrArg (·.1) he) (congrArg (·.2.1) he) (congrArg (·.2.2) he) hv hp h
theorem crY (i:Nat) (S:List Nat) (he:(decide R.Nodup && enabled ops R i && waits ops R S i && apartS ops S R i,R.erase i,ops[i]?)=(true,R',some ⟨some dst,op,ty,pos,after,some (j,b)⟩)) (hj:(ops[j]?).bind (·.dst)=some d) (hl:Lk fr d (.bool b)) (hv:LU P ⟨some dst,op,ty,pos,after,some (j,b)⟩ fr w v) (hp:Pt fr dst v fr') (h:SC P ops Q R' fr' ds w) (hQ:Blind Q:=by first | exact blind_of fun _ _ _ h=>h | exact blind_of fun _ _ _ h=>h.2 | exact blind_of fun _ _ _ h=>h.2.2):SC P ops Q R fr ds w:=sc_rdSY S hQ (congrArg (·.1) he) (congrArg (·.2.1) he) (congrArg (·.2.2) he) hj hl hv hp h
theorem fp (i:Nat) (S:List Nat) (he:(decide R.Nodup && enabled ops R i && waits ops R S i && apartF ops S R i && S.contains i,R.erase i,ops[i]?)=(true,R',some ⟨some dst,op,ty,pos,after,none⟩)) (hv:PU P ⟨some dst,op,ty,pos,after,none⟩ fr v) (hp:Pt fr dst v fr') (h:SF P ops Q Ns R' fr' ds w) (hQ:Blind Q:=by first | exact blind_of fun _ _ _ h=>h | exact blind_of fun _ _ _ h=>h.2 | exact blind_of fun _ _ _ h=>h.2.2):SF P ops Q Ns R fr ds w:=sf_pu S hQ (congrArg (·.1) he) (congrArg (·.2.1) he) (congrArg (·.2.2) he) hv hp h
theorem fpY (i:Nat) (S:List Nat) (he:(decide R.Nodup && enabled ops R i && waits ops R S i && apartF ops S R i && S.contains i,R.erase i,ops[i]?)=(true,R',some ⟨some dst,op,ty,pos,after,some (j,b)⟩)) (hj:(ops[j]?).bind (·.dst)=some d) (hl:Lk fr d (.bool b)) (hv:PU P ⟨some dst,op,ty,pos,after,some (j,b)⟩ fr v) (hp:Pt fr dst v fr') (h:SF P ops Q Ns R' fr' ds w) (hQ:Blind Q:=by first | exact blind_of fun _ _ _ h=>h | exact blind_of fun _ _ _ h=>h.2 | exact blind_of fun _ _ _ h=>h.2.2):SF P ops Q Ns R fr ds w:=sf_puY S hQ (congrArg (·.1) he) (congrArg (·.2.1) he) (congrArg (·.2.2) he) hj hl hv hp h
theorem fpN (i:Nat) (S:List Nat) (he:(decide R.Nodup && enabled ops R i && waits ops R S i && apartF ops S R i && S.contains i,R.erase i,ops[i]?)=(true,R',some ⟨some dst,op,ty,pos,after,some (j,b)⟩)) (hj:(ops[j]?).bind (·.dst)=some d) (hl:Lk fr d (.bool b')) (hb:(b' == b)=false) (hp:Pt fr dst undef fr') (h:SF P ops Q Ns R' fr' ds w) (hQ:Blind Q:=by first | exact blind_of fun _ _ _ h=>h | exact blind_of fun _ _ _ h=>h.2 | exact blind_of fun _ _ _ h=>h.2.2):SF P ops Q Ns R fr ds w:=sf_puN S hQ (congrArg (·.1) he) (congrArg (·.2.1) he) (congrArg (·.2.2) he) hj hl hb hp h
theorem fr_ (i:Nat) (S:List Nat) (he:(decide R.Nodup && enabled ops R i && waits ops R S i && apartF ops S R i && S.contains i,R.erase i,ops[i]?)=(true,R',some ⟨some dst,op,ty,pos,after,none⟩)) (hv:LU P ⟨some dst,op,ty,pos,after,none⟩ fr w v) (hp:Pt fr dst v fr') (h:SF P ops Q ((S,fun w'=>LU P ⟨some dst,op,ty,pos,after,none⟩ fr w' v)::Ns) R' fr' ds w) (hQ:Blind Q:=by first | exact blind_of fun _ _ _ h=>h | exact blind_of fun _ _ _ h=>h.2 | exact blind_of fun _ _ _ h=>h.2.2):SF P ops Q Ns R fr ds w:=sf_rd S hQ (congrArg (·.1) he) (congrArg (·.2.1) he) (congrArg (·.2.2) he) hv hp h
theorem fr_Y (i:Nat) (S:List Nat) (he:(decide R.Nodup && enabled ops R i && waits ops R S i && apartF ops S R i && S.contains i,R.erase i,ops[i]?)=(true,R',some ⟨some dst,op,ty,pos,after,some (j,b)⟩)) (hj:(ops[j]?).bind (·.dst)=some d) (hl:Lk fr d (.bool b)) (hv:LU P ⟨some dst,op,ty,pos,after,some (j,b)⟩ fr w v) (hp:Pt fr dst v fr') (h:SF P ops Q ((S,fun w'=>LU P ⟨some dst,op,ty,pos,after,some (j,b)⟩ fr w' v)::Ns) R' fr' ds w) (hQ:Blind Q:=by first | exact blind_of fun _ _ _ h=>h | exact blind_of fun _ _ _ h=>h.2 | exact blind_of fun _ _ _ h=>h.2.2):SF P ops Q Ns R fr ds w:=sf_rdY S hQ (congrArg (·.1) he) (congrArg (·.2.1) he) (congrArg (·.2.2) he) hj hl hv hp h
end
class Lki (l:List Value) (n:Nat) (v:outParam Value):Prop where out:Lk l n v
instance {v:Value} {l:List Value}:Lki (v::l) 0 v:=⟨rfl⟩
instance {a v:Value} {l:List Value} {n:Nat} [h:Lki l n v]:Lki (a::l) (n+1) v:=⟨h.out⟩
instance (priority:=2000) {c0 c1 c2 c3 c4 c5 c6 c7 c8 c9 v:Value} {l:List Value} {n:Nat} [h:Lki l n v]:Lki (c0::c1::c2::c3::c4::c5::c6::c7::c8::c9::l) (n+10) v:=⟨h.out⟩
class Pti (l:List Value) (n:Nat) (v:Value) (l':outParam (List Value)):Prop where out:Pt l n v l'
instance {a v:Value} {l:List Value}:Pti (a::l) 0 v (v::l):=⟨rfl⟩
instance {a v:Value} {l l':List Value} {n:Nat} [h:Pti l n v l']:Pti (a::l) (n+1) v (a::l'):=⟨congrArg (a::·) h.out⟩
instance (priority:=2000) {c0 c1 c2 c3 c4 c5 c6 c7 c8 c9 v:Value} {l l':List Value} {n:Nat} [h:Pti l n v l']:Pti (c0::c1::c2::c3::c4::c5::c6::c7::c8::c9::l) (n+10) v (c0::c1::c2::c3::c4::c5::c6::c7::c8::c9::l'):=⟨congrArg (c0::c1::c2::c3::c4::c5::c6::c7::c8::c9::·) h.out⟩
class Evi (fr:List Value) (x:Operand) (v:outParam Value):Prop where out:Ev fr x v
instance {fr:List Value} {n:Nat} {v:Value} [h:Lki fr n v]:Evi fr (.tmp n) v:=⟨et h.out⟩
instance {fr:List Value} {v:Value}:Evi fr (.const v) v:=⟨ec⟩
class Pui (P:Program) (op:Op) (fr:List Value) (v:outParam Value):Prop where out:∀ dst ty pos after g,PU P (Oper.mk dst op ty pos after g) fr v
section
variable {P:Program} {fr:List Value} {x y c:Operand} {v:Value} {t t':TypeId} {k:IntKind} {a b:Int}
instance [h:Evi fr x v]:Pui P (.move x) fr v:=⟨fun _ _ _ _ _=>u_move h.out⟩
instance [h:Evi fr x v]:Pui P (.assign x) fr v:=⟨fun _ _ _ _ _=>u_assign h.out⟩
instance {a:Addr} [h:Evi fr x (.pointer (some a))]:Pui P (.nilCheck x) fr (.pointer (some a)):=⟨fun _ _ _ _ _=>u_nilck h.out⟩
instance [hx:Evi fr x (.int k a)] [hy:Evi fr y (.int k b)]:Pui P (.binOp .eql t x y t') fr (.bool (decide (a=b))):=⟨fun _ _ _ _ _=>u_eqi hx.out hy.out⟩
instance [hx:Evi fr x (.int k a)] [hy:Evi fr y (.int k b)]:Pui P (.binOp .neq t x y t') fr (.bool (decide (a≠b))):=⟨fun _ _ _ _ _=>u_nei hx.out hy.out⟩
instance [hx:Evi fr x (.int k a)] [hy:Evi fr y (.int k b)]:Pui P (.binOp .lss t x y t') fr (.bool (decide (a<b))):=⟨fun _ _ _ _ _=>u_lss hx.out hy.out⟩
instance [hx:Evi fr x (.int k a)] [hy:Evi fr y (.int k b)]:Pui P (.binOp .leq t x y t') fr (.bool (decide (a≤b))):=⟨fun _ _ _ _ _=>u_leq hx.out hy.out⟩
instance [hx:Evi fr x (.int k a)] [hy:Evi fr y (.int k b)]:Pui P (.binOp .gtr t x y t') fr (.bool (decide (b<a))):=⟨fun _ _ _ _ _=>u_gtr hx.out hy.out⟩
instance [hx:Evi fr x (.int k a)] [hy:Evi fr y (.int k b)]:Pui P (.binOp .geq t x y t') fr (.bool (decide (b≤a))):=⟨fun _ _ _ _ _=>u_geq hx.out hy.out⟩
end
section
variable {P:Program} {Q:Exit→Act→World→Prop} {fr fr':List Value} {ds:List Deferred} {w:World} {ops:Array Oper} {rest:List Oper} {d:Tmp} {op:Op} {ty:TypeId} {pos:String} {after:Array Edge} {v:Value}
theorem st [hu:Pui P op fr v] [hp:Pti fr d v fr'] (h:WL P ops Q rest fr' ds w):WL P ops Q (⟨some d,op,ty,pos,after,none⟩::rest) fr ds w:=wl (su (hu.out _ _ _ _ _) (dt hp.out) h)
end
class Evsi (fr:List Value) (xs:List Operand) (vs:outParam (List Value)):Prop where out:Evs fr xs vs
instance {fr:List Value}:Evsi fr [] []:=⟨e0⟩
instance {fr:List Value} {x:Operand} {v:Value} {xs:List Operand} {vs:List Value} [h:Evi fr x v] [k:Evsi fr xs vs]:Evsi fr (x::xs) (v::vs):=⟨e1 h.out k.out⟩
section
variable {P:Program} {fr:List Value} {x y c:Operand} {v:Value} {t t' T:TypeId} {b:Nat} {o off i:Nat} {vs:List Value} {q:Bool}
instance [hF:FA P T i off] [h:Evi fr x (.pointer (some ⟨b,o,none⟩))]:Pui P (.fieldAddr T x i) fr (.pointer (some ⟨b,o+off,none⟩)):=⟨fun _ _ _ _ _=>u_fa hF h.out rfl⟩
instance [hc:Evi fr c (.bool true)] [h:Evi fr x v]:Pui P (.pick c x y) fr v:=⟨fun _ _ _ _ _=>u_pickt hc.out h.out⟩
instance [hc:Evi fr c (.bool false)] [h:Evi fr y v]:Pui P (.pick c x y) fr v:=⟨fun _ _ _ _ _=>u_pickf hc.out h.out⟩
instance [h:Evi fr x (.bool q)]:Pui P (.unOp .not t x) fr (.bool (!q)):=⟨fun _ _ _ _ _=>u_not h.out⟩
instance [h:Evi fr x (.tuple ⟨vs⟩)] [k:Lki vs i v]:Pui P (.extract x i) fr v:=⟨fun _ _ _ _ _=>u_extr h.out k.out⟩
end
section
variable {P:Program} {Q:Exit→Act→World→Prop} {fr fr':List Value} {ds:List Deferred} {w:World} {ops:Array Oper} {rest:List Oper} {d:Tmp} {op:Op} {ty:TypeId} {pos:String} {after:Array Edge} {v:Value} {j e:Nat} {b b':Bool}
theorem sy [hu:Pui P op fr v] [hp:Pti fr d v fr'] (hj:(ops[j]?).bind (·.dst)=some e) [hl:Lki fr e (.bool b)] (h:WL P ops Q rest fr' ds w):WL P ops Q (⟨some d,op,ty,pos,after,some (j,b)⟩::rest) fr ds w:=wy hj hl.out (su (hu.out _ _ _ _ _) (dt hp.out) h)
theorem sn [hp:Pti fr d undef fr'] (hj:(ops[j]?).bind (·.dst)=some e) [hl:Lki fr e (.bool b')] (hb:(b' == b)=false) (h:WL P ops Q rest fr' ds w):WL P ops Q (⟨some d,op,ty,pos,after,some (j,b)⟩::rest) fr ds w:=wn hj hl.out hb (dt hp.out) h
theorem ld {T:TypeId} {zc:List Value} {n m o q:Nat} {x:Operand} [hT:TI P T false zc n m] (hc:w.cell? ⟨q,o,none⟩=some v) [hx:Evi fr x (.pointer (some ⟨q,o,none⟩))] [hp:Pti fr d v fr'] (h:WL P ops Q rest fr' ds w):WL P ops Q (⟨some d,.load T x,ty,pos,after,none⟩::rest) fr ds w:=wl (s_load hT hx.out hc (dt hp.out) h)
theorem lds {T:TypeId} {zc cs:List Value} {n m o q:Nat} {x:Operand} [hT:TI P T true zc n m] (hc:CellsAt w q o cs) (hn:cs.length=n) [hx:Evi fr x (.pointer (some ⟨q,o,none⟩))] [hp:Pti fr d (.agg ⟨cs⟩) fr'] (h:WL P ops Q rest fr' ds w):WL P ops Q (⟨some d,.load T x,ty,pos,after,none⟩::rest) fr ds w:=wl (s_loads hT hx.out hc hn (dt hp.out) h)
theorem ca {dst:Option Tmp} {xs:List Operand} {tys:Array TypeId} {k:FuncId} {vs:List Value} {R:Value→World→Prop} [hk:IsFn P k] [hs:Evsi fr xs vs] (hc:CallsV P k vs w R) (h:∀ v w',R v w'→Put fr dst v fun fr'=>WL P ops Q rest fr' ds w') :
  WL P ops Q (⟨dst,.call { callee:=.value (.func k),args:=⟨xs⟩,argTypes:=tys },ty,pos,after,none⟩::rest) fr ds w:=wl (s_callv hk ef hs.out hc h)
theorem po {v:Value} {K:List Value→Prop} [hp:Pti fr d v fr'] (h:K fr'):Put fr (some d) v K:=pu (dt hp.out) h
theorem cpi {R R':List Nat} (i:Nat) (he:(decide R.Nodup && enabled ops R i && apart ops false R i,R.erase i,ops[i]?)=(true,R',some ⟨some d,op,ty,pos,after,none⟩)) [hv:Pui P op fr v] [hp:Pti fr d v fr'] (h:SC P ops Q R' fr' ds w) (hQ:Blind Q:=by first | exact blind_of fun _ _ _ h=>h | exact blind_of fun _ _ _ h=>h.2 | exact blind_of fun _ _ _ h=>h.2.2):SC P ops Q R fr ds w :=
 cp i he (hv.out _ _ _ _ _) hp.out h hQ
theorem fpi {Ns:List Mon} {R R':List Nat} (i:Nat) (S:List Nat) (he:(decide R.Nodup && enabled ops R i && waits ops R S i && apartF ops S R i && S.contains i,R.erase i,ops[i]?)=(true,R',some ⟨some d,op,ty,pos,after,none⟩)) [hv:Pui P op fr v] [hp:Pti fr d v fr'] (h:SF P ops Q Ns R' fr' ds w) (hQ:Blind Q:=by first | exact blind_of fun _ _ _ h=>h | exact blind_of fun _ _ _ h=>h.2 | exact blind_of fun _ _ _ h=>h.2.2):SF P ops Q Ns R fr ds w :=
 fp i S he (hv.out _ _ _ _ _) hp.out h hQ
end
section
variable {rs rs':List Res} {a1 a2 a3 a4 a5 a6 a7 a8 a9 a10 a11 a12 r:Res}
theorem Y1:Bg (a1::r::rs) 1 (r::a1::rs):=.s (Bg.z)
theorem Y2:Bg (a1::a2::r::rs) 2 (r::a1::a2::rs):=.s (.s (Bg.z))
theorem Y3:Bg (a1::a2::a3::r::rs) 3 (r::a1::a2::a3::rs):=.s (.s (.s (Bg.z)))
theorem Y4:Bg (a1::a2::a3::a4::r::rs) 4 (r::a1::a2::a3::a4::rs):=.s (.s (.s (.s (Bg.z))))
theorem Y5:Bg (a1::a2::a3::a4::a5::r::rs) 5 (r::a1::a2::a3::a4::a5::rs):=.s (.s (.s (.s (.s (Bg.z)))))
theorem Y6:Bg (a1::a2::a3::a4::a5::a6::r::rs) 6 (r::a1::a2::a3::a4::a5::a6::rs):=.s (.s (.s (.s (.s (.s (Bg.z))))))
theorem Y7:Bg (a1::a2::a3::a4::a5::a6::a7::r::rs) 7 (r::a1::a2::a3::a4::a5::a6::a7::rs):=.s (.s (.s (.s (.s (.s (.s (Bg.z)))))))
theorem Y8:Bg (a1::a2::a3::a4::a5::a6::a7::a8::r::rs) 8 (r::a1::a2::a3::a4::a5::a6::a7::a8::rs):=.s (.s (.s (.s (.s (.s (.s (.s (Bg.z))))))))
end
abbrev u1 (l:List Value):List Value:=undef::l
abbrev u2 (l:List Value):List Value:=undef::undef::l
abbrev u5 (l:List Value):List Value:=undef::undef::undef::undef::undef::l
abbrev u10 (l:List Value):List Value:=undef::undef::undef::undef::undef::undef::undef::undef::undef::undef::l
abbrev u20 (l:List Value):List Value:=undef::undef::undef::undef::undef::undef::undef::undef::undef::undef::undef::undef::undef::undef::undef::undef::undef::undef::undef::undef::l
abbrev u50 (l:List Value):List Value:=undef::undef::undef::undef::undef::undef::undef::undef::undef::undef::undef::undef::undef::undef::undef::undef::undef::undef::undef::undef::undef::undef::undef::undef::undef::undef::undef::undef::undef::undef::undef::undef::undef::undef::undef::undef::undef::undef::undef::undef::undef::undef::undef::undef::undef::undef::undef::undef::undef::undef::l
end Go.Xt
namespace Go.Lx
def letterB (c:UInt8):Bool:=(97≤c.toNat && c.toNat≤122) || c.toNat == 95
def digitB (c:UInt8):Bool:=48≤c.toNat && c.toNat≤57
def wordB (c:UInt8):Bool:=letterB c || digitB c
def lineB (c:UInt8):Bool:=c.toNat != 10
def blankB (c:UInt8):Bool:=c.toNat == 32 || c.toNat == 9 || c.toNat == 10
theorem tw_lt {p:UInt8→Bool} {l:List UInt8} {k:Nat} {c:UInt8} (h:(l.take k).all p=true) (hc:l[k]?=some c) (hp:p c=false):(l.takeWhile p).length=k:=by
 induction l generalizing k with
 | nil=>simp at hc
 | cons a l ih =>
  cases k with
  | zero=>simp at hc; subst hc; simp [hp]
  | succ k =>
   simp at h hc
   simp [h.1]
   exact ih (by simpa using h.2) hc
theorem tw_all {p:UInt8→Bool} {l:List UInt8} (h:l.all p=true):(l.takeWhile p).length=l.length:=by
 induction l with
 | nil=>rfl
 | cons a l ih=>simp at h; simp [h.1]; exact ih (by simpa using h.2)
theorem all_snoc {p:UInt8→Bool} {l:List UInt8} {k:Nat} {c:UInt8} (h:(l.take k).all p=true) (hc:l[k]?=some c) (hp:p c=true):(l.take (k+1)).all p=true:=by
 rw [List.take_add_one,hc]
 simp [List.all_append,h,hp]
def sp:Bool→List UInt8→Nat
 | _,[]=>0
 | false,c::l=>if blankB c then 1+sp false l else if c.toNat=35 then 1+sp true l else 0
 | true,c::l=>if c.toNat=10 then 1+sp false l else 1+sp true l
def space (l:List UInt8):Nat:=sp false l
theorem sp_remark (l:List UInt8):sp true l=(l.takeWhile lineB).length+sp false (l.drop (l.takeWhile lineB).length):=by
 induction l with
 | nil=>rfl
 | cons c l ih =>
  by_cases h:c.toNat=10
  ·have hb:blankB c=true:=by simp [blankB,h]
   simp [sp,lineB,h,hb]
  ·have hl:lineB c=true:=by simp [lineB,h]
   simp only [sp,h,List.takeWhile_cons,hl,if_true,if_false,List.length_cons,List.drop_succ_cons]
   rw [ih]
   omega
theorem space_blank {c:UInt8} {l:List UInt8} (h:blankB c=true):space (c::l)=1+space l:=by simp [space,sp,h]
theorem space_remark {c:UInt8} {l:List UInt8} (h:c.toNat=35):space (c::l)=((c::l).takeWhile lineB).length+space ((c::l).drop ((c::l).takeWhile lineB).length):=by
 have hb:blankB c=false:=by simp [blankB,h]
 have hl:lineB c=true:=by simp [lineB,h]
 simp only [space,sp,hb,h,List.takeWhile_cons,hl,if_true,if_false,Bool.false_eq_true,List.length_cons,List.drop_succ_cons]
 rw [sp_remark]
 omega
theorem space_stop {c:UInt8} {l:List UInt8} (hb:blankB c=false) (h:¬ c.toNat=35):space (c::l)=0:=by simp [space,sp,hb,h]
theorem sp_le (b:Bool) (l:List UInt8):sp b l≤l.length:=by
 induction l generalizing b with
 | nil=>simp [sp]
 | cons c l ih =>
  have h1:=ih false
  have h2:=ih true
  cases b <;> simp only [sp,List.length_cons] <;> split <;> (try split) <;> omega
theorem space_le (l:List UInt8):space l≤l.length:=sp_le false l
def signs:List (List UInt8):=[[61,61],[33,61],[60,61],[62,61],[60],[62],[61],[43],[45],[42],[47],[37],[40],[41],[123],[125],[44],[59]]
def sign (l:List UInt8):List UInt8:=(signs.find? fun x=>x.isPrefixOf l).getD []
theorem pre_take (l p:List UInt8):decide (l.take p.length=p)=p.isPrefixOf l:=by
 rw [Bool.eq_iff_iff]
 simp only [decide_eq_true_eq,List.isPrefixOf_iff_prefix]
 constructor
 ·intro h; rw [← h]; exact List.take_prefix _ _
 ·intro h; exact (List.prefix_iff_eq_take.1 h).symm
theorem pre_short (l p:List UInt8) (h:l.length<p.length):p.isPrefixOf l=false:=by
 rw [Bool.eq_false_iff]
 intro hp
 have:=(List.isPrefixOf_iff_prefix.1 hp).length_le
 omega
theorem sign_hit {l x:List UInt8} {k:Nat} (h:∀ y ∈ signs.take k,y.isPrefixOf l=false) (hx:signs[k]?=some x) (hp:x.isPrefixOf l=true):sign l=x:=by
 unfold sign
 have hk:k<signs.length:=(List.getElem?_eq_some_iff.1 hx).1
 have hs:signs=signs.take k++x::signs.drop (k+1):=by
  have:=List.take_append_drop k signs
  rw [List.drop_eq_getElem_cons hk,(List.getElem?_eq_some_iff.1 hx).2] at this
  exact this.symm
 rw [hs,List.find?_append]
 have:(signs.take k).find? (fun y=>y.isPrefixOf l)=none:=List.find?_eq_none.2 fun y hy=>by rw [h y hy]; simp
 rw [this]
 simp [hp]
theorem sign_miss {l:List UInt8} (h:∀ y ∈ signs,y.isPrefixOf l=false):sign l=[]:=by
 unfold sign
 rw [List.find?_eq_none.2 fun y hy=>by rw [h y hy]; simp]
 rfl
theorem sign_le (l:List UInt8):(sign l).length≤l.length:=by
 unfold sign
 cases h:signs.find? fun x=>x.isPrefixOf l with
 | none=>simp
 | some x =>
  have hp:=List.find?_some (p:=fun x:List UInt8=>x.isPrefixOf l) h
  exact (List.isPrefixOf_iff_prefix.1 hp).length_le
theorem sign_short:∀ x ∈ signs,x.length≤2:=by decide
structure Tok where
 kind:Nat
 text:List UInt8
 num:Nat
 pos:Nat
 deriving DecidableEq
def valFrom (a:Nat) (t:List UInt8):Nat:=t.foldl (fun a c=>a*10+(c.toNat - 48)) a
def val (t:List UInt8):Nat:=valFrom 0 t
def tok1 (pos:Nat) (l:List UInt8):Except Nat Tok:=match l with
 | []=>.error 0
 | c::_ =>
  if letterB c then .ok ⟨1,l.takeWhile wordB,0,pos⟩
  else if digitB c then (if 15<(l.takeWhile digitB).length then .error 3 else .ok ⟨2,l.takeWhile digitB,val (l.takeWhile digitB),pos⟩)
  else if sign l=[] then .error 2 else .ok ⟨3,sign l,0,pos⟩
def toks:Nat→Nat→List UInt8→Except (Nat×Nat) (List Tok)
 | 0,_,_=>.ok []
 | n+1,pos,l=>if l=[] then .ok [] else match tok1 pos l with
  | .error e=>.error (e,pos)
  | .ok t=>(toks n (pos+t.text.length+space (l.drop t.text.length)) ((l.drop t.text.length).drop (space (l.drop t.text.length)))).map (t::·)
def tokens (l:List UInt8):Except (Nat×Nat) (List Tok):=if 6000<l.length then .error (4,0) else toks (l.length+1) (space l) (l.drop (space l))
theorem tok1_len {pos:Nat} {l:List UInt8} {t:Tok} (h:tok1 pos l=.ok t):0<t.text.length∧t.text.length≤l.length∧t.text=l.take t.text.length∧t.pos=pos:=by
 cases l with
 | nil=>cases h
 | cons c l =>
  unfold tok1 at h
  simp only at h
  have tw:∀ p:UInt8→Bool,p c=true→0<((c::l).takeWhile p).length∧((c::l).takeWhile p).length≤(c::l).length∧(c::l).takeWhile p=(c::l).take ((c::l).takeWhile p).length:=by
   intro p hp
   refine ⟨by simp [List.takeWhile_cons,hp],(List.takeWhile_sublist _).length_le,?_⟩
   exact List.prefix_iff_eq_take.1 (List.takeWhile_prefix _)
  by_cases h1:letterB c=true
  ·rw [if_pos h1] at h
   cases h
   obtain ⟨a,b,d⟩:=tw wordB (by simp [wordB,h1])
   exact ⟨a,b,d,rfl⟩
  ·rw [if_neg h1] at h
   by_cases h2:digitB c=true
   ·rw [if_pos h2] at h
    by_cases h3:15<((c::l).takeWhile digitB).length
    ·rw [if_pos h3] at h; cases h
    ·rw [if_neg h3] at h
     cases h
     obtain ⟨a,b,d⟩:=tw digitB h2
     exact ⟨a,b,d,rfl⟩
   ·rw [if_neg h2] at h
    by_cases h3:sign (c::l)=[]
    ·rw [if_pos h3] at h; cases h
    ·rw [if_neg h3] at h
     cases h
     refine ⟨List.length_pos_iff.2 h3,sign_le _,?_,rfl⟩
     unfold sign at h3 ⊢
     cases hf:signs.find? (fun x=>x.isPrefixOf (c::l)) with
     | none=>rw [hf] at h3; simp at h3
     | some x =>
      have hp:=List.find?_some (p:=fun x:List UInt8=>x.isPrefixOf (c::l)) hf
      exact List.prefix_iff_eq_take.1 (List.isPrefixOf_iff_prefix.1 hp)
theorem tok1_num {pos:Nat} {c:UInt8} {l:List UInt8} (h2:letterB c=false) (h3:digitB c=true):tok1 pos (c::l)=if 15<((c::l).takeWhile digitB).length then .error 3 else .ok ⟨2,(c::l).takeWhile digitB,val ((c::l).takeWhile digitB),pos⟩:=by
 simp only [tok1,h2,h3]
 rfl
theorem tok1_sign {pos:Nat} {c:UInt8} {l:List UInt8} (h2:letterB c=false) (h3:digitB c=false):tok1 pos (c::l)=if sign (c::l)=[] then .error 2 else .ok ⟨3,sign (c::l),0,pos⟩:=by
 simp only [tok1,h2,h3]
 rfl
theorem toks_fuel {n m pos:Nat} {l:List UInt8} (hn:l.length<n) (hm:l.length<m):toks n pos l=toks m pos l:=by
 induction n generalizing m pos l with
 | zero=>omega
 | succ n ih =>
  cases m with
  | zero=>omega
  | succ m =>
   unfold toks
   by_cases h:l=[]
   ·rw [if_pos h,if_pos h]
   ·rw [if_neg h,if_neg h]
    cases ht:tok1 pos l with
    | error e=>rfl
    | ok t =>
     simp only
     have hl:=tok1_len ht
     rw [ih (m:=m) (by simp; omega) (by simp; omega)]
theorem val_lt (t:List UInt8):∀ a k,a<10 ^ k→t.all digitB=true→valFrom a t<10 ^ (k+t.length):=by
 induction t with
 | nil=>intro a k h _; simpa [valFrom] using h
 | cons c t ih =>
  intro a k h hd
  simp only [List.all_cons,Bool.and_eq_true] at hd
  have hc:c.toNat - 48≤9:=by simp [digitB] at hd; omega
  have:=ih (a*10+(c.toNat - 48)) (k+1) (by rw [Nat.pow_succ]; omega) hd.2
  simp only [valFrom,List.foldl_cons,List.length_cons] at this ⊢
  rw [show k+(t.length+1)=k+1+t.length by omega]
  exact this
theorem tw_digits (l:List UInt8):(l.takeWhile digitB).all digitB=true:=by
 induction l with
 | nil=>rfl
 | cons c l ih =>
  rw [List.takeWhile_cons]
  by_cases h:digitB c=true
  ·rw [if_pos h,List.all_cons,h,ih]; rfl
  ·rw [if_neg h]; rfl
theorem tw_take (p:UInt8→Bool) (l:List UInt8):l.take (l.takeWhile p).length=l.takeWhile p:=(List.prefix_iff_eq_take.1 (List.takeWhile_prefix _)).symm
def lexr (pos:Nat) (l:List UInt8):Except (Nat×Nat) (List Tok):=toks (l.length+1) pos l
theorem lexr_nil (pos:Nat):lexr pos []=.ok []:=rfl
theorem lexr_err {pos e:Nat} {l:List UInt8} (h:l≠[]) (ht:tok1 pos l=.error e):lexr pos l=.error (e,pos):=by
 unfold lexr toks
 rw [if_neg h,ht]
theorem lexr_ok {pos:Nat} {l:List UInt8} {t:Tok} (h:l≠[]) (ht:tok1 pos l=.ok t) :
  lexr pos l=(lexr (pos+t.text.length+space (l.drop t.text.length)) ((l.drop t.text.length).drop (space (l.drop t.text.length)))).map (t::·):=by
 have hl:=tok1_len ht
 unfold lexr
 rw [toks.eq_def]
 simp only [if_neg h,ht]
 rw [toks_fuel (n:=l.length) (m:=((l.drop t.text.length).drop (space (l.drop t.text.length))).length+1) (by simp; omega) (by omega)]
theorem tokens_eq (l:List UInt8):tokens l=if 6000<l.length then .error (4,0) else lexr (space l) (l.drop (space l)):=by
 unfold tokens lexr
 split
 ·rfl
 ·rw [toks_fuel]
  ·simp; omega
  ·omega
end Go.Lx
namespace Go.Lx
def reserved:List (List UInt8):=[[98,111,120],[102,110],[103,101,110],[116,97,115,107],[116,97,107,101,115],[121,105,101,108,100,115],[108,101,116],[105,102],[101,108,115,101],[119,104,105,108,101],[114,101,116,117,114,110],[115,116,111,112],[115,101,110,100],[111,117,116],[100,111],[114,101,99,118],[121,105,101,108,100],[115,116,97,114,116],[114,101,115,117,109,101],[97,108,105,118,101],[110,117,109],[98,111,111,108],[116,114,117,101],[102,97,108,115,101],[97,110,100],[111,114],[110,111,116]]
def hay:List UInt8:=[32,98,111,120,32,102,110,32,103,101,110,32,116,97,115,107,32,116,97,107,101,115,32,121,105,101,108,100,115,32,108,101,116,32,105,102,32,101,108,115,101,32,119,104,105,108,101,32,114,101,116,117,114,110,32,115,116,111,112,32,115,101,110,100,32,111,117,116,32,100,111,32,114,101,99,118,32,121,105,101,108,100,32,115,116,97,114,116,32,114,101,115,117,109,101,32,97,108,105,118,101,32,110,117,109,32,98,111,111,108,32,116,114,117,101,32,102,97,108,115,101,32,97,110,100,32,111,114,32,110,111,116,32]
def named (l:List UInt8):Bool:=decide (0<l.length) && decide (l.length≤12) && (match l with | c::_=>letterB c | []=>false) && l.all wordB && !reserved.contains l
theorem index_iff (sub:List UInt8):∀ s:List UInt8,0≤Lib.index s sub ↔ ∃ i,i≤s.length∧sub.isPrefixOf (s.drop i)=true:=by
 intro s
 induction s with
 | nil =>
  simp only [Lib.index]
  cases sub with
  | nil=>simp
  | cons a l=>simp
 | cons b l ih =>
  simp only [Lib.index]
  by_cases h:sub.isPrefixOf (b::l)=true
  ·rw [if_pos h]
   exact ⟨fun _=>⟨0,by simp,h⟩,fun _=>by omega⟩
  ·rw [if_neg h]
   have e:(0≤(if (Lib.index l sub == -1)=true then (-1:Int) else Lib.index l sub+1)) ↔ 0≤Lib.index l sub:=by
    by_cases h1:Lib.index l sub=-1
    ·simp [h1]
    ·have h2:(Lib.index l sub == -1)=false:=by simpa using h1
     rw [h2]
     simp only [Bool.false_eq_true,if_false]
     have:-1≤Lib.index l sub:=by
      clear ih h1 h2 h
      induction l with
      | nil=>simp only [Lib.index]; split <;> omega
      | cons c l ih2 =>
       simp only [Lib.index]
       split
       ·omega
       ·split
        ·omega
        ·have:=ih2; omega
     omega
   rw [e,ih]
   constructor
   ·rintro ⟨i,hi,hp⟩
    exact ⟨i+1,by simpa using hi,by simpa using hp⟩
   ·rintro ⟨i,hi,hp⟩
    cases i with
    | zero=>exact absurd (by simpa using hp) h
    | succ i=>exact ⟨i,by simpa using hi,by simpa using hp⟩
theorem hay_words:∀ i,i<hay.length→(hay.drop i).head?=some 32→((hay.drop (i+1)).takeWhile (fun c=>c != 32)) ∈ reserved∨(hay.drop (i+1)).takeWhile (fun c=>c != 32)=[]:=by decide +kernel
theorem hay_has:∀ w ∈ reserved,Lib.contains hay (32::w++[32])=true:=by decide +kernel
theorem tw_stop (l r:List UInt8) (h:∀ c ∈ l,c≠32):(l++32::r).takeWhile (fun c=>c != 32)=l:=by
 induction l with
 | nil=>simp
 | cons c l ih =>
  have hc:=h c (by simp)
  rw [List.cons_append,List.takeWhile_cons]
  simp only [bne_iff_ne,ne_eq,hc,not_false_eq_true,if_true]
  rw [ih fun d hd=>h d (by simp [hd])]
theorem hay_iff {l:List UInt8} (h0:l≠[]) (hw:∀ c ∈ l,c≠32):Lib.contains hay (32::l++[32])=reserved.contains l:=by
 rw [Bool.eq_iff_iff]
 constructor
 ·intro h
  have h1:=(index_iff _ _).1 (of_decide_eq_true h)
  obtain ⟨i,hi,hp⟩:=h1
  obtain ⟨r,hr⟩:=List.isPrefixOf_iff_prefix.1 hp
  have hi':i<hay.length:=by
   rcases Nat.lt_or_ge i hay.length with h | h
   ·exact h
   ·rw [List.drop_eq_nil_of_le h] at hr; simp at hr
  have e2:hay.drop (i+1)=l++32::r:=by
   have:=congrArg List.tail hr
   simpa using this.symm
  have hh:(hay.drop i).head?=some 32:=by rw [← hr]; rfl
  rcases hay_words i hi' hh with h | h
  ·rw [e2,tw_stop l r hw] at h
   simpa using h
  ·rw [e2,tw_stop l r hw] at h
   exact absurd h h0
 ·intro h
  exact hay_has l (by simpa using h)
theorem named_word {c:UInt8} {r:List UInt8} (h12:(c::r).length≤12) (hc:letterB c=true):named (c::r)=((c::r).all wordB && !reserved.contains (c::r)):=by
 simp only [List.length_cons] at h12
 simp [named,h12,hc]
theorem word_no {l:List UInt8} (h:l.all wordB=true):∀ c ∈ l,c≠32:=by
 intro c hc e
 subst e
 exact absurd (List.all_eq_true.1 h 32 hc) (by decide)
theorem all_len (p:UInt8→Bool) (l:List UInt8):l.all p=decide ((l.takeWhile p).length=l.length):=by
 induction l with
 | nil=>rfl
 | cons c l ih =>
  rw [List.all_cons,List.takeWhile_cons]
  cases h:p c with
  | false=>simp
  | true=>simp [ih]
theorem named_no {c:UInt8} {r:List UInt8} (h12:(c::r).length≤12) (hc:letterB c=true) (h:Lib.contains hay (32::(c::r)++[32])=true):named (c::r)=false:=by
 rw [named_word h12 hc]
 by_cases hw:(c::r).all wordB=true
 ·rw [hay_iff (by simp) (word_no hw)] at h
  rw [h]; simp
 ·simp [hw]
theorem named_yes {c:UInt8} {r:List UInt8} (h12:(c::r).length≤12) (hc:letterB c=true) (h:Lib.contains hay (32::(c::r)++[32])=false):named (c::r)=decide (((c::r).takeWhile wordB).length=(c::r).length):=by
 rw [named_word h12 hc,← all_len]
 by_cases hw:(c::r).all wordB=true
 ·rw [hay_iff (by simp) (word_no hw)] at h
  rw [h]; simp
 ·simp [hw]
end Go.Lx
