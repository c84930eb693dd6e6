/- Texts of Xu. -/
import Derived.Test.YtbdiobhgejmgoaaDoorCXt
import Derived.Shelf.Strconv.ParseIntPublic10
import Derived.Lib.IndexMore
set_option linter.unusedSimpArgs false
set_option linter.unusedVariables false
set_option linter.unusedSectionVars false
namespace Go.Xt
open Go.Wk Go.RowKit
section
variable {P:Program} {Q:Exit→Act→World→Prop} {K:List Value→List Deferred→World→Prop} {fr fr':List Value} {ds:List Deferred} {w:World}
variable {dst:Option Tmp} {ty:TypeId} {pos:String} {after:Array Edge} {g:Option (Nat×Bool)}
variable {w0:World} {rs rs':List Res} {μ μ':M}
variable {T:TypeId}
theorem Mq.two {es:List MapEntry} {c:Nat} {k0 k1:List UInt8} {x0 x1:Int} (h:Mq μ es c [(k0,x0),(k1,x1)]) :
  ∃ n0 n1,es=[⟨S k0,.int .i64 x0,n0⟩,⟨S k1,.int .i64 x1,n1⟩]∧n0<n1∧n1<c:=by
 obtain ⟨hkv,hlt,hinc⟩:=h
 match es,hkv,hlt,hinc with
 | [],hkv,_,_=>simp [Es] at hkv
 | [a],hkv,_,_ =>
  rw [Es] at hkv
  obtain ⟨k,x,t,h1,-,-,h4⟩:=hkv
  simp [Es] at h4 h1
  simp [h4] at h1
 | [a,b],hkv,hlt,hinc =>
  rw [Es] at hkv
  obtain ⟨k,x,t,h1,h2,h3,h4⟩:=hkv
  rw [Es] at h4
  obtain ⟨k',x',t',h1',h2',h3',h4'⟩:=h4
  subst h1'
  simp only [List.cons.injEq,Prod.mk.injEq] at h1
  obtain ⟨⟨rfl,rfl⟩,⟨rfl,rfl⟩,-⟩:=h1
  obtain ⟨ak,av,ab⟩:=a
  obtain ⟨bk,bv,bb⟩:=b
  have h3:av=.int .i64 x0:=h3
  have h3':bv=.int .i64 x1:=h3'
  have h2:ak=S k0:=h2
  have h2':bk=S k1:=h2'
  subst h2 h2' h3 h3'
  have h5:ab<bb:=List.rel_of_pairwise_cons hinc (List.mem_singleton.2 rfl)
  have h6:bb<c:=hlt ⟨S k1,.int .i64 x1,bb⟩ (by simp)
  exact ⟨ab,bb,rfl,h5,h6⟩
 | a::b::d::es,hkv,_,_ =>
  rw [Es] at hkv
  obtain ⟨k,x,t,h1,-,-,h4⟩:=hkv
  rw [Es] at h4
  obtain ⟨k',x',t',h1',-,-,h4'⟩:=h4
  rw [Es] at h4'
  obtain ⟨k'',x'',t'',h1'',-,-,-⟩:=h4'
  subst h1'' h1'
  simp at h1
theorem seen_put (w:World) (b:Nat) (o:Obj) (hlt:b<w.heap.size):Keeps (fun k=>k≠b) w { w with heap:=w.heap.setIfInBounds b o }∧({ w with heap:=w.heap.setIfInBounds b o }:World).heap[b]?=some o :=
 ⟨⟨rfl,rfl,rfl,by simp,fun j _ hj=>by simp [Array.getElem?_setIfInBounds,Ne.symm hj]⟩,by simp [hlt]⟩
theorem s_next0 {x:Operand} {b m c ki k n0 n1:Nat} {a0 v0 a1 v1:Value} (hx:Ev fr x (.pointer (some ⟨b,0,none⟩))) (hS:Sq μ w0 w rs) (hi:Lk rs ki (.mit b m c [] c)) (hm:Lk rs k (.map m [⟨a0,v0,n0⟩,⟨a1,v1,n1⟩] c)) (h01:n0<n1) (h1c:n1<c)
  (hA:∀ w' rs',Pt rs ki (.mit b m c [n0] c) rs'→Sq μ w0 w' rs'→Put fr dst (.tuple ⟨[.bool true,a0,v0]⟩) fun fr'=>K fr' ds w')
  (hB:∀ w' rs',Pt rs ki (.mit b m c [n1] c) rs'→Sq μ w0 w' rs'→Put fr dst (.tuple ⟨[.bool true,a1,v1]⟩) fun fr'=>K fr' ds w') :
  OW P (Oper.mk dst (.next x false) ty pos after g) fr ds w K Q:=by
 have hb:w.heap[b]?=some (.mapIter (some m) c ⟨[]⟩ c):=hS.get hi
 have hb2:w.heap[m]?=some (.map ⟨[⟨a0,v0,n0⟩,⟨a1,v1,n1⟩]⟩ c):=hS.get hm
 have hlt:b<w.heap.size:=(Array.getElem?_eq_some_iff.1 hb).1
 have hbd:w.drew.heap[b]?=some (.mapIter (some m) c ⟨[]⟩ c):=hb
 have h0c:n0<c:=by omega
 have hnc:¬ n0 ≥ c:=by omega
 have hnc1:¬ n1 ≥ c:=by omega
 by_cases hd:(w.tape w.drawn (.mapNext 2)) % 2=0
 ·obtain ⟨hk,hh⟩:=seen_put w.drew b (.mapIter (some m) c ⟨[n0]⟩ c) hlt
  obtain ⟨fr',hd'⟩:=dt_ex fr dst (.tuple ⟨[.bool true,a0,v0]⟩)
  refine op_v (w':={ w.drew with heap:=w.drew.heap.setIfInBounds b (.mapIter (some m) c ⟨[n0]⟩ c) }) ?_ hd' (hA _ _ rfl ((hS.drew (w':=w.drew) rfl rfl rfl rfl).put (b:=b) hi rfl rfl rfl hh hk) fr' hd')
  simp [execOp,hx ds,Instr.next,getObj,setObj,Sem.run,hb,hb2,Result.andThen,h0c,h1c,hnc,hnc1,choose,Question.forced,Question.cut,hd,hbd]
 ·have hd1:(w.tape w.drawn (.mapNext 2)) % 2=1:=by omega
  obtain ⟨hk,hh⟩:=seen_put w.drew b (.mapIter (some m) c ⟨[n1]⟩ c) hlt
  obtain ⟨fr',hd'⟩:=dt_ex fr dst (.tuple ⟨[.bool true,a1,v1]⟩)
  refine op_v (w':={ w.drew with heap:=w.drew.heap.setIfInBounds b (.mapIter (some m) c ⟨[n1]⟩ c) }) ?_ hd' (hB _ _ rfl ((hS.drew (w':=w.drew) rfl rfl rfl rfl).put (b:=b) hi rfl rfl rfl hh hk) fr' hd')
  simp [execOp,hx ds,Instr.next,getObj,setObj,Sem.run,hb,hb2,Result.andThen,h0c,h1c,hnc,hnc1,choose,Question.forced,Question.cut,hd1,hbd]
theorem s_next1 {x:Operand} {b m c ki k n0 n1:Nat} {a0 v0 a1 v1:Value} (hx:Ev fr x (.pointer (some ⟨b,0,none⟩))) (hS:Sq μ w0 w rs) (hi:Lk rs ki (.mit b m c [n0] c)) (hm:Lk rs k (.map m [⟨a0,v0,n0⟩,⟨a1,v1,n1⟩] c)) (h01:n0<n1) (h1c:n1<c)
  (hA:∀ w' rs',Pt rs ki (.mit b m c [n0,n1] c) rs'→Sq μ w0 w' rs'→Put fr dst (.tuple ⟨[.bool true,a1,v1]⟩) fun fr'=>K fr' ds w') :
  OW P (Oper.mk dst (.next x false) ty pos after g) fr ds w K Q:=by
 have hb:w.heap[b]?=some (.mapIter (some m) c ⟨[n0]⟩ c):=hS.get hi
 have hb2:w.heap[m]?=some (.map ⟨[⟨a0,v0,n0⟩,⟨a1,v1,n1⟩]⟩ c):=hS.get hm
 have hlt:b<w.heap.size:=(Array.getElem?_eq_some_iff.1 hb).1
 have hnc:¬ n0 ≥ c:=by omega
 have hnc1:¬ n1 ≥ c:=by omega
 have hall:¬ ∀ (i:Nat) (x:i<2),c≤([⟨a0,v0,n0⟩,⟨a1,v1,n1⟩]:List MapEntry)[i].born:=fun h=>by have:=h 0 (by decide); simp at this; omega
 have hne:¬ n1=n0:=by omega
 have hne':¬ n0=n1:=by omega
 obtain ⟨hk,hh⟩:=seen_put w b (.mapIter (some m) c ⟨[n0,n1]⟩ c) hlt
 obtain ⟨fr',hd'⟩:=dt_ex fr dst (.tuple ⟨[.bool true,a1,v1]⟩)
 refine op_v (w':={ w with heap:=w.heap.setIfInBounds b (.mapIter (some m) c ⟨[n0,n1]⟩ c) }) ?_ hd' (hA _ _ rfl (hS.put (b:=b) hi rfl rfl rfl hh hk) fr' hd')
 simp [execOp,hx ds,Instr.next,getObj,setObj,Sem.run,hb,hb2,Result.andThen,h1c,hnc,hnc1,hne,hne',hall,choose,Question.forced]
theorem s_next1' {x:Operand} {b m c ki k n0 n1:Nat} {a0 v0 a1 v1:Value} (hx:Ev fr x (.pointer (some ⟨b,0,none⟩))) (hS:Sq μ w0 w rs) (hi:Lk rs ki (.mit b m c [n1] c)) (hm:Lk rs k (.map m [⟨a0,v0,n0⟩,⟨a1,v1,n1⟩] c)) (h01:n0<n1) (h1c:n1<c)
  (hA:∀ w' rs',Pt rs ki (.mit b m c [n1,n0] c) rs'→Sq μ w0 w' rs'→Put fr dst (.tuple ⟨[.bool true,a0,v0]⟩) fun fr'=>K fr' ds w') :
  OW P (Oper.mk dst (.next x false) ty pos after g) fr ds w K Q:=by
 have hb:w.heap[b]?=some (.mapIter (some m) c ⟨[n1]⟩ c):=hS.get hi
 have hb2:w.heap[m]?=some (.map ⟨[⟨a0,v0,n0⟩,⟨a1,v1,n1⟩]⟩ c):=hS.get hm
 have hlt:b<w.heap.size:=(Array.getElem?_eq_some_iff.1 hb).1
 have h0c:n0<c:=by omega
 have hnc:¬ n0 ≥ c:=by omega
 have hnc1:¬ n1 ≥ c:=by omega
 have hall:¬ ∀ (i:Nat) (x:i<2),c≤([⟨a0,v0,n0⟩,⟨a1,v1,n1⟩]:List MapEntry)[i].born:=fun h=>by have:=h 0 (by decide); simp at this; omega
 have hne:¬ n1=n0:=by omega
 have hne':¬ n0=n1:=by omega
 obtain ⟨hk,hh⟩:=seen_put w b (.mapIter (some m) c ⟨[n1,n0]⟩ c) hlt
 obtain ⟨fr',hd'⟩:=dt_ex fr dst (.tuple ⟨[.bool true,a0,v0]⟩)
 refine op_v (w':={ w with heap:=w.heap.setIfInBounds b (.mapIter (some m) c ⟨[n1,n0]⟩ c) }) ?_ hd' (hA _ _ rfl (hS.put (b:=b) hi rfl rfl rfl hh hk) fr' hd')
 simp [execOp,hx ds,Instr.next,getObj,setObj,Sem.run,hb,hb2,Result.andThen,h0c,hnc,hnc1,hne,hne',hall,choose,Question.forced]
theorem s_next2 {x:Operand} {b m c ki k n0 n1 p q:Nat} {a0 v0 a1 v1:Value} (hx:Ev fr x (.pointer (some ⟨b,0,none⟩))) (hS:Sq μ w0 w rs) (hi:Lk rs ki (.mit b m c [p,q] c)) (hm:Lk rs k (.map m [⟨a0,v0,n0⟩,⟨a1,v1,n1⟩] c)) (h01:n0<n1) (h1c:n1<c) (hpq:p=n0∧q=n1∨p=n1∧q=n0)
  (hd:Dt fr dst (.tuple ⟨[.bool false]⟩) fr') (h:K fr' ds w) :
  OW P (Oper.mk dst (.next x false) ty pos after g) fr ds w K Q:=by
 have hb:w.heap[b]?=some (.mapIter (some m) c ⟨[p,q]⟩ c):=hS.get hi
 have hb2:w.heap[m]?=some (.map ⟨[⟨a0,v0,n0⟩,⟨a1,v1,n1⟩]⟩ c):=hS.get hm
 have hnc:¬ n0 ≥ c:=by omega
 have hnc1:¬ n1 ≥ c:=by omega
 have hall:¬ ∀ (i:Nat) (x:i<2),c≤([⟨a0,v0,n0⟩,⟨a1,v1,n1⟩]:List MapEntry)[i].born:=fun h=>by have:=h 0 (by decide); simp at this; omega
 have hne:¬ n1=n0:=by omega
 have hne':¬ n0=n1:=by omega
 refine op_v (w':=w) ?_ hd h
 rcases hpq with ⟨rfl,rfl⟩ | ⟨rfl,rfl⟩ <;> simp [execOp,hx ds,Instr.next,getObj,setObj,Sem.run,hb,hb2,Result.andThen,hnc,hnc1,hne,hne',hall,choose,Question.forced]
theorem s_entry {x:Operand} {b m c ki k n0 n1:Nat} {a0 v0 a1 v1:Value} {seen:List Nat} {e:MapEntry} (hx:Ev fr x (.pointer (some ⟨b,0,none⟩))) (hS:Sq μ w0 w rs) (hi:Lk rs ki (.mit b m c seen c)) (hm:Lk rs k (.map m [⟨a0,v0,n0⟩,⟨a1,v1,n1⟩] c)) (h01:n0<n1)
  (hs:seen.getLast?=some e.born) (he:e=⟨a0,v0,n0⟩∨e=⟨a1,v1,n1⟩) (hd:Dt fr dst (.tuple ⟨[e.key,e.val]⟩) fr') (h:K fr' ds w) :
  OW P (Oper.mk dst (.entry x) ty pos after g) fr ds w K Q:=by
 have hb:w.heap[b]?=some (.mapIter (some m) c ⟨seen⟩ c):=hS.get hi
 have hb2:w.heap[m]?=some (.map ⟨[⟨a0,v0,n0⟩,⟨a1,v1,n1⟩]⟩ c):=hS.get hm
 have hne:¬ n1=n0:=by omega
 have hne':¬ n0=n1:=by omega
 have hbk:(⟨seen⟩:Array Nat).back?=some e.born:=by rw [← hs]; simp [Array.back?,List.getLast?_eq_getElem?]
 refine op_v (w':=w) ?_ hd h
 rcases he with rfl | rfl <;> simp [execOp,hx ds,Instr.entry,getObj,Sem.run,hb,hb2,Result.andThen,hbk,hne,hne']
end
end Go.Xt
namespace Go.Xt
open Go.Wk Go.RowKit
section
variable {P:Program} {Q:Exit→Act→World→Prop} {K:List Value→List Deferred→World→Prop} {fr fr':List Value} {ds:List Deferred} {w:World}
variable {dst:Option Tmp} {ty:TypeId} {pos:String} {after:Array Edge} {g:Option (Nat×Bool)}
structure CallsDR (P:Program) (f:FuncId) (args:List Value) (w:World) (R:Value→World→Prop):Prop where
 out:CallsD P f ⟨args⟩ .returning w fun e u' w'=>u'=.returning∧okV R e w'
theorem retDr {fn:Func} {R R1:Value→World→Prop} {k:FuncId} {cap vs:List Value} (hk:IsFn P k) (hc:CallsDR P k (vs++cap) w R1) (h:∀ v w',R1 v w'→PostD P fn R .ret (F fr ds) w') :
  PostD P fn R .ret (F fr (⟨.fn (.func k) ⟨cap⟩,⟨vs⟩⟩::ds)) w:=by
 refine ⟨by simp,.func k,⟨cap⟩,k,⟨vs++cap⟩,rfl,?_,?_⟩
 ·have:=hk.out ⟨vs++cap⟩ w
  simp [invoke,this]
 ·refine hc.out.mono fun e u' w' he=>?_
  obtain ⟨rfl,he⟩:=he
  cases e with
  | returned v=>exact h v w' he
  | panicked c=>exact he.elim
  | outgrown=>exact he.elim
theorem eq_ifc {P:Program} {T:TypeId} {ms:Array (String×TypeId)} {v:Value} {b:Bool} (hu:P.underlying T=some (.interface ms)) (hv:(v=.nilIface∧b=true)∨((∃ a c,v=.iface a c)∧b=false)):EqV P 1 T v .nilIface b:=⟨fun d w hd=>by
 cases d with
 | zero=>omega
 | succ d=>rcases hv with ⟨rfl,rfl⟩ | ⟨⟨a,c,rfl⟩,rfl⟩ <;> simp [Op.equalIn,run_underlying hu]⟩
theorem s_eqni {x:Operand} {t t':TypeId} {v:Value} {b:Bool} {ms:Array (String×TypeId)} (hu:P.underlying t=some (.interface ms)) (hx:Ev fr x v) (hv:(v=.nilIface∧b=true)∨((∃ a c,v=.iface a c)∧b=false)) (hp:Dt fr dst (.bool b) fr') (k:K fr' ds w) :
  OW P (Oper.mk dst (.binOp .eql t x (.const .nilIface) t') ty pos after g) fr ds w K Q:=by
 refine su ⟨fun ds w=>?_⟩ hp k
 have h1:=hx ds
 have h2:(F fr ds).eval (.const .nilIface)=.nilIface:=rfl
 have h3:=(eq_ifc hu hv).out Op.maxDepth w (by decide)
 rcases hv with ⟨rfl,rfl⟩ | ⟨⟨a,c,rfl⟩,rfl⟩ <;> simp [execOp,h1,h2,eqGuard,binOp,Op.equal,h3]
end
end Go.Xt
namespace Go.Xt
open Go.Wk Go.RowKit
def vOf (agg:Bool) (cs:List Value):Value:=if agg then .agg ⟨cs⟩ else cs.headD undef
structure FnOk (P:Program) (μ0:M) (K:Nat) (caps:List Value) {α:Type} [Mo α] (agg:Bool) (pf:α→Option Bool):Prop where
 isfn:IsFn P K
 call:∀ {μ1:M} {w0 w1:World} {rs:List Res} {x:α} {b:Bool} {cs:List Value},Le μ0 μ1→Mo.cs μ1 cs x→pf x=some b→Sq μ1 w0 w1 rs→CallsV P K ([vOf agg cs]++caps) w1 (fun v w'=>∃ μ2,v=.bool b∧Le μ1 μ2∧Sq μ2 w0 w' rs)
theorem FnOk.up {P:Program} {μ μ':M} {K:Nat} {caps:List Value} {α:Type} [Mo α] {agg:Bool} {pf:α→Option Bool} (h:FnOk P μ K caps agg pf) (l:Le μ μ'):FnOk P μ' K caps agg pf:=⟨h.isfn,fun hl=>h.call (l.t hl)⟩
end Go.Xt
namespace Go.Xt
open Go.Wk Go.RowKit
instance:Mo UInt8 where
 sz:=1
 pos:=by decide
 cs _ l x:=l=[.int .u8 x.toNat]
 ln h:=by rw [h]; rfl
 up _ h:=h
 cv h:=by rw [h]; rfl
def pint (l:List UInt8):Option Int:=if l.length≤9223372036854775806 then (match Lib.parseIntB 64 l with | .ok v=>some v | _=>none) else none
def scont (l sub:List UInt8):Option Bool:=if l.length<4294967281 then some (Lib.contains l sub) else none
end Go.Xt
namespace Go.Xt
open Go.Wk Go.RowKit
def bT {ε α β : Type} (o : Option (Except ε α)) (f : α → Option (Except ε β)) : Option (Except ε β) :=
  match o with
  | none => none
  | some (.error e) => some (.error e)
  | some (.ok x) => f x
theorem bTe {ε α β : Type} {o : Option (Except ε α)} {f : α → Option (Except ε β)} {r : Except ε β} (h : bT o f = some r) : (∃ e, o = some (.error e) ∧ r = .error e) ∨ ∃ x, o = some (.ok x) ∧ f x = some r := by
  unfold bT at h
  split at h
  · cases h
  · rename_i e; exact .inl ⟨e, rfl, (Option.some.inj h).symm⟩
  · rename_i x; exact .inr ⟨x, rfl, h⟩
def bC {ε α β : Type} (o : Option (Except ε α)) (k : ε → β) (f : α → Option β) : Option β :=
  match o with
  | none => none
  | some (.error e) => some (k e)
  | some (.ok x) => f x
theorem bCe {ε α β : Type} {o : Option (Except ε α)} {k : ε → β} {f : α → Option β} {r : β} (h : bC o k f = some r) : (∃ e, o = some (.error e) ∧ r = k e) ∨ ∃ x, o = some (.ok x) ∧ f x = some r := by
  unfold bC at h
  split at h
  · cases h
  · rename_i e; exact .inl ⟨e, rfl, (Option.some.inj h).symm⟩
  · rename_i x; exact .inr ⟨x, rfl, h⟩
section
variable {P : Program} {Q : Exit → Act → World → Prop} {K : List Value → List Deferred → World → Prop} {fr fr' : List Value} {ds : List Deferred} {w : World}
variable {dst : Option Tmp} {ty : TypeId} {pos : String} {after : Array Edge} {g : Option (Nat × Bool)}
variable {w0 : World} {rs rs' : List Res} {μ μ' : M} {ε α : Type}
def EndT (V : ε → Value) (r : Except ε α) (R : α → Value → World → Prop) (E : World → Prop) : Ending → World → Prop
  | .returned v, w => ∃ x, r = .ok x ∧ R x v w
  | .panicked ch, w => ∃ e, r = .error e ∧ ch = [{ v := V e, recovered := false }] ∧ E w
  | .outgrown, _ => False
structure CallsT (P : Program) (f : FuncId) (args : List Value) (w : World) (V : ε → Value) (r : Except ε α) (R : α → Value → World → Prop) (E : World → Prop) : Prop where
  out : Calls P f ⟨args⟩ w (EndT V r R E)
theorem CallsT.ok {f : FuncId} {args : List Value} {V : ε → Value} {x : α} {R : α → Value → World → Prop} {E : World → Prop} (h : CallsT P f args w V (.ok x) R E) : CallsV P f args w (R x) :=
  ⟨Calls.mono h.out fun e w' he => by
    cases e with
    | returned v => obtain ⟨y, hy, h⟩ := he; obtain rfl := Except.ok.inj hy; exact h
    | panicked c => obtain ⟨y, hy, -⟩ := he; cases hy
    | outgrown => exact he⟩
theorem s_callte {f : Operand} {xs : List Operand} {tys : Array TypeId} {k : FuncId} {vs : List Value} {V : ε → Value} {e : ε} {R : α → Value → World → Prop} {E : World → Prop} (hk : IsFn P k) (hf : Ev fr f (.func (.func k) #[] #[])) (hs : Evs fr xs vs)
    (hc : CallsT P k vs w V (.error e) R E) (h : ∀ w', E w' → Q (.panic [{ v := V e, recovered := false }]) (F fr ds) w') : OW P (Oper.mk dst (.call { callee := .value f, args := ⟨xs⟩, argTypes := tys }) ty pos after g) fr ds w K Q := by
  constructor
  intro K2 hK
  have hr := run_call (w := w) (dst := dst) (ty := ty) (pos := pos) (after := after) (g := g) (tys := tys) (ds := ds) (cap := []) hk hf hs
  unfold Oper.wp
  rw [hr, Oper.upon_enter, List.append_nil]
  exact Calls.mono hc.out fun e w' he => by
    cases e with
    | returned v => obtain ⟨y, hy, -⟩ := he; cases hy
    | panicked c => obtain ⟨y, hy, rfl, h'⟩ := he; obtain rfl := Except.error.inj hy; exact h w' h'
    | outgrown => exact he.elim
def PostT (P : Program) (fn : Func) (V : ε → Value) (r : Except ε α) (R : α → Value → World → Prop) (E : World → Prop) : Exit → Act → World → Prop := bodyPost P fn (EndT V r R E)
def PostTD (P : Program) (fn : Func) (V : ε → Value) (r : Except ε α) (R : α → Value → World → Prop) (E : World → Prop) : Exit → Act → World → Prop
  | .panic ch, a, w => ∀ tmps, Leaves P fn tmps (EndT V r R E) a.defers (.panicking ch) w
  | e, a, w => bodyPostD P fn (EndT V r R E) e a w
theorem enterT {f : FuncId} {fn : Func} {c : Code} {args frm : List Value} {V : ε → Value} {r : Except ε α} {R : α → Value → World → Prop} {E : World → Prop} (hf : P.funcs[f]? = some fn) (hb : fn.body = some c)
    (hfr : args ++ List.replicate (fn.ntmps - args.length) undef = frm) (h : CW P c (PostT P fn V r R E) frm [] w) : CallsT P f args w V r R E := by
  refine ⟨calls_of_wp hf hb ?_⟩
  subst hfr
  have : (⟨args⟩ : Array Value) ++ Array.replicate (fn.ntmps - args.length) undef = ⟨args ++ List.replicate (fn.ntmps - args.length) undef⟩ := by
    apply Array.ext'
    simp
  have h := h.out
  simpa [F, PostT, this] using h
theorem enterFT {f : FuncId} {fn : Func} {c : Code} {args frm : List Value} {V : ε → Value} {r : Except ε α} {R : α → Value → World → Prop} {E : World → Prop} (hf : P.funcs[f]? = some fn) (hb : fn.body = some c)
    (hfr : args ++ List.replicate (fn.ntmps - args.length) undef = frm) (h : CW P c (PostTD P fn V r R E) frm [] w) : CallsT P f args w V r R E := by
  refine ⟨calls_of_wp_defers hf hb ?_⟩
  subst hfr
  have e1 : (⟨args⟩ : Array Value) ++ Array.replicate (fn.ntmps - args.length) undef = ⟨args ++ List.replicate (fn.ntmps - args.length) undef⟩ := by
    apply Array.ext'
    simp
  have h := wp_mono h.out (Q' := bodyPostD P fn (EndT V r R E)) fun e a w hq => by
    cases e <;> first | exact hq | exact hq a.tmps
  simpa [F, e1] using h
variable {fn : Func} {V : ε → Value} {x : α} {r : Except ε α} {R : α → Value → World → Prop} {E : World → Prop}
theorem okT {a : Act} (h : Post P fn (R x) .ret a w) : PostT P fn V (.ok x) R E .ret a w := by
  obtain ⟨h1, v, h2, h3⟩ := h
  exact ⟨h1, v, h2, x, rfl, h3⟩
theorem okTn {a : Act} (h : Post P fn (R x) .normal a w) : PostT P fn V (.ok x) R E .normal a w := by
  obtain ⟨h1, v, h2, h3⟩ := h
  exact ⟨h1, v, h2, x, rfl, h3⟩
theorem okTD (h : PostD P fn (R x) .ret (F fr []) w) : PostTD P fn V (.ok x) R E .ret (F fr []) w := by
  obtain ⟨v, h2, h3⟩ := h
  exact ⟨v, h2, x, rfl, h3⟩
theorem retDT {R1 : Value → World → Prop} {k : FuncId} {cap vs : List Value} (hk : IsFn P k) (hc : CallsDV P k (vs ++ cap) w R1) (h : ∀ v w', R1 v w' → PostTD P fn V r R E .ret (F fr ds) w') :
    PostTD P fn V r R E .ret (F fr (⟨.fn (.func k) ⟨cap⟩, ⟨vs⟩⟩ :: ds)) w := by
  refine ⟨by simp, .func k, ⟨cap⟩, k, ⟨vs ++ cap⟩, rfl, ?_, ?_⟩
  · have := hk.out ⟨vs ++ cap⟩ w
    simp [invoke, this]
  · refine (hc.out .returning).mono fun e u' w' he => ?_
    obtain ⟨rfl, he⟩ := he
    cases e with
    | returned v => exact h v w' he
    | panicked c => exact he.elim
    | outgrown => exact he.elim
theorem thN {e : ε} (h : E w) : PostT P fn V (.error e) R E (.panic [{ v := V e, recovered := false }]) (F fr []) w := ⟨rfl, e, rfl, rfl, h⟩
theorem thND {e : ε} (h : E w) : PostTD P fn V (.error e) R E (.panic [{ v := V e, recovered := false }]) (F fr []) w := fun _ => ⟨e, rfl, rfl, h⟩
theorem thD {v : Value} {R1 : Value → World → Prop} {k : FuncId} {cap vs : List Value} (hk : IsFn P k) (hc : CallsDV P k (vs ++ cap) w R1) (h : ∀ u w', R1 u w' → PostTD P fn V r R E (.panic [{ v, recovered := false }]) (F fr ds) w') :
    PostTD P fn V r R E (.panic [{ v, recovered := false }]) (F fr (⟨.fn (.func k) ⟨cap⟩, ⟨vs⟩⟩ :: ds)) w := fun tmps => by
  refine ⟨by simp, .func k, ⟨cap⟩, k, ⟨vs ++ cap⟩, rfl, ?_, ?_⟩
  · have := hk.out ⟨vs ++ cap⟩ w
    simp [invoke, this]
  · refine (hc.out _).mono fun e u' w' he => ?_
    obtain ⟨rfl, he⟩ := he
    cases e with
    | returned v => exact h v w' he tmps
    | panicked c => exact he.elim
    | outgrown => exact he.elim
def PostR (P : Program) (fn : Func) (R : Value → World → Prop) : Exit → Act → World → Prop := bodyPostD P fn (okV R)
def rslots (fn : Func) : List Nat := fn.results.toList.map fun r => match r with | .tmp t => t | .cell a _ => a
theorem readRV_set {tm : List Value} {d : Nat} {v : Value} {r : ResultVar} (h : (match r with | .tmp t => t | .cell a _ => a) ≠ d) : readRV ⟨tm.set d v⟩ r = readRV ⟨tm⟩ r := by
  cases r with
  | tmp t =>
    have : t ≠ d := h
    simp [readRV, List.getElem?_set, Ne.symm this]
  | cell a t =>
    have : a ≠ d := h
    simp [readRV, List.getElem?_set, Ne.symm this]
theorem results_set {fn : Func} {tm : List Value} {d : Nat} {v : Value} (h : (rslots fn).contains d = false) : results fn ⟨tm.set d v⟩ = results fn ⟨tm⟩ := by
  rw [results_eq, results_eq]
  have key : ∀ l : List ResultVar, (∀ r ∈ l, (match r with | .tmp t => t | .cell a _ => a) ≠ d) → l.mapM (readRV ⟨tm.set d v⟩) = l.mapM (readRV ⟨tm⟩) := by
    intro l hl
    induction l with
    | nil => rfl
    | cons r l ih =>
      rw [List.mapM_cons, List.mapM_cons, readRV_set (hl r (by simp)), ih fun r hr => hl r (by simp [hr])]
  have hall : ∀ r ∈ fn.results.toList, (match r with | .tmp t => t | .cell a _ => a) ≠ d := by
    intro r hr e
    have : d ∈ rslots fn := List.mem_map.2 ⟨r, hr, e⟩
    simp [List.contains_iff_mem, this] at h
  rw [Array.mapM_eq_mapM_toList, Array.mapM_eq_mapM_toList, key _ hall]
theorem Leaves.set {fn : Func} {tm : List Value} {d : Nat} {v : Value} {R : Ending → World → Prop} (h : (rslots fn).contains d = false) : ∀ (ds : List Deferred) (u : FrameMode) (w : World), Leaves P fn ⟨tm.set d v⟩ R ds u w → Leaves P fn ⟨tm⟩ R ds u w
  | [], .returning, w, hl => by
    obtain ⟨x, h1, h2⟩ := hl
    exact ⟨x, by rw [← h1, results_set h], h2⟩
  | [], .panicking ch, w, hl => hl
  | [], .run, w, hl => hl
  | dd :: ds, u, w, hl => by
    obtain ⟨h0, fv, cap, f, args, h1, h2, h3⟩ := hl
    refine ⟨h0, fv, cap, f, args, h1, h2, h3.mono fun e u' w' he => ?_⟩
    cases e with
    | returned x => exact Leaves.set h ds _ _ he
    | panicked ch => exact Leaves.set h ds _ _ he
    | outgrown => exact he
theorem blR {fn : Func} {R : Value → World → Prop} {ch : List PanicEntry} {d : Nat} {v : Value} (hd : (rslots fn).contains d = false) (h : PostR P fn R (.panic ch) (F (fr.set d v) ds) w) : PostR P fn R (.panic ch) (F fr ds) w := Leaves.set hd _ _ _ h
theorem enterFR {f : FuncId} {fn : Func} {c : Code} {args frm : List Value} {R : Value → World → Prop} (hf : P.funcs[f]? = some fn) (hb : fn.body = some c)
    (hfr : args ++ List.replicate (fn.ntmps - args.length) undef = frm) (h : CW P c (PostR P fn R) frm [] w) : CallsV P f args w R := by
  refine ⟨Calls.mono (calls_of_wp_defers (R := okV R) hf hb ?_) fun e w he => by cases e <;> exact he⟩
  subst hfr
  have e1 : (⟨args⟩ : Array Value) ++ Array.replicate (fn.ntmps - args.length) undef = ⟨args ++ List.replicate (fn.ntmps - args.length) undef⟩ := by
    apply Array.ext'
    simp
  have h := h.out
  simpa [F, e1, PostR] using h
theorem okR {fn : Func} {R : Value → World → Prop} {a : Act} (h : PostD P fn R .ret a w) : PostR P fn R .ret a w := h
structure CallsRec (P : Program) (f : FuncId) (args : List Value) (ch : List PanicEntry) (w : World) (R : World → Prop) : Prop where
  out : CallsD P f ⟨args⟩ (.panicking ch) w fun e u' w' => settle u' = .returning ∧ okV (fun _ w' => R w') e w'
theorem thR {fn : Func} {R : Value → World → Prop} {v : Value} {R1 : World → Prop} {k : FuncId} {cap vs : List Value} (hk : IsFn P k) (hc : CallsRec P k (vs ++ cap) [{ v, recovered := false }] w R1) (h : ∀ w', R1 w' → PostD P fn R .ret (F fr ds) w') :
    PostR P fn R (.panic [{ v, recovered := false }]) (F fr (⟨.fn (.func k) ⟨cap⟩, ⟨vs⟩⟩ :: ds)) w := by
  refine ⟨by simp, .func k, ⟨cap⟩, k, ⟨vs ++ cap⟩, rfl, ?_, ?_⟩
  · have := hk.out ⟨vs ++ cap⟩ w
    simp [invoke, this]
  · refine hc.out.mono fun e u' w' he => ?_
    obtain ⟨hu, he⟩ := he
    cases e with
    | returned v =>
      show Leaves P fn ⟨fr⟩ (okV R) ds (settle u') w'
      rw [hu]
      exact h w' he
    | panicked c => exact he.elim
    | outgrown => exact he.elim
theorem _root_.Go.Wk.Sep.dropL {a : Res} {l : List Res} (hS : Sq μ w0 w (a :: (l ++ rs))) : Sq μ w0 w (a :: rs) := by
  have hsub : (a :: rs).Sublist (a :: (l ++ rs)) := (List.sublist_append_right _ _).cons_cons a
  refine ⟨hS.keeps, fun r hr => hS.all r (hsub.subset hr), (hsub.filterMap _).nodup hS.dis, fun b hb => hS.new b ((hsub.filterMap _).subset hb), ?_⟩
  refine hS.imm.mono fun k _ hs => ⟨hs.1, fun hm => hs.2 ((hsub.filterMap Res.block).subset hm)⟩
theorem _root_.Go.Wk.Sep.dropL2 {a b : Res} {l : List Res} (hS : Sq μ w0 w (a :: b :: (l ++ rs))) : Sq μ w0 w (a :: b :: rs) := by
  have hsub : (a :: b :: rs).Sublist (a :: b :: (l ++ rs)) := ((List.sublist_append_right _ _).cons_cons b).cons_cons a
  refine ⟨hS.keeps, fun r hr => hS.all r (hsub.subset hr), (hsub.filterMap _).nodup hS.dis, fun b hb => hS.new b ((hsub.filterMap _).subset hb), ?_⟩
  refine hS.imm.mono fun k _ hs => ⟨hs.1, fun hm => hs.2 ((hsub.filterMap Res.block).subset hm)⟩
def EP (μ : M) (w0 : World) (b : Nat) (T : TypeId) (rs : List Res) : World → Prop := fun w => ∃ (μ' : M) (v0 v1 : Value) (i : Int), Le μ μ' ∧ Sq μ' w0 w (.blk b T [v0, v1, .int .i64 i] :: rs)
theorem _root_.Go.Wk.EqV.up {m : Nat} {T : TypeId} {v v' : Value} {b : Bool} (h : EqV P m T v v' b) : EqV P (m + 1) T v v' b := ⟨fun d w hd => h.out d w (by omega)⟩
end
end Go.Xt
namespace Go.Xt
theorem oI {α : Type} {a b : α} (h : some a = some b) : a = b := Option.some.inj h
abbrev rg : Nat → Nat → List Nat := fun a b => List.range' a b
end Go.Xt
