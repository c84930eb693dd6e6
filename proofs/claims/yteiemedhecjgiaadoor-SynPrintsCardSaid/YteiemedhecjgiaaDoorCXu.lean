/- Texts of Xu. -/
import Derived.Test.YteiemedhecjgiaaDoorCXt
import Derived.Laws.IdiomCopy
import Derived.Shelf.Strconv.ParseIntPublic10
import Derived.Lib.IndexMore
import Derived.Sort.Row
import Derived.Lib.AppendStr
import Derived.Lib.ItoaNum
import Derived.Lib.UnsafeStr
set_option linter.unusedSimpArgs false
set_option linter.unusedVariables false
set_option linter.unusedSectionVars false
namespace Go.Xt
open Go.Wk Go.RowKit
section
variable {P:Program} {Q:Exit→Act→World→Prop} {K:List Value→List Deferred→World→Prop} {fr fr':List Value} {ds:List Deferred} {w:World}
variable {dst:Option Tmp} {ty:TypeId} {pos:String} {after:Array Edge} {g:Option (Nat×Bool)}
variable {w0:World} {rs rs':List Res} {μ μ':M}
variable {T:TypeId}
theorem seen_put (w:World) (b:Nat) (o:Obj) (hlt:b<w.heap.size):Keeps (fun k=>k≠b) w { w with heap:=w.heap.setIfInBounds b o }∧({ w with heap:=w.heap.setIfInBounds b o }:World).heap[b]?=some o :=
 ⟨⟨rfl,rfl,rfl,by simp,fun j _ hj=>by simp [Array.getElem?_setIfInBounds,Ne.symm hj]⟩,by simp [hlt]⟩
end
end Go.Xt
namespace Go.Xt
open Go.Wk Go.RowKit
section
variable {P:Program} {Q:Exit→Act→World→Prop} {K:List Value→List Deferred→World→Prop} {fr fr':List Value} {ds:List Deferred} {w:World}
variable {dst:Option Tmp} {ty:TypeId} {pos:String} {after:Array Edge} {g:Option (Nat×Bool)}
end
end Go.Xt
namespace Go.Xt
open Go.Wk Go.RowKit
def vOf (agg:Bool) (cs:List Value):Value:=if agg then .agg ⟨cs⟩ else cs.headD undef
structure FnOk (P:Program) (μ0:M) (K:Nat) (caps:List Value) {α:Type} [Mo α] (agg:Bool) (pf:α→Option Bool):Prop where
 isfn:IsFn P K
 call:∀ {μ1:M} {w0 w1:World} {rs:List Res} {x:α} {b:Bool} {cs:List Value},Le μ0 μ1→Mo.cs μ1 cs x→pf x=some b→Sq μ1 w0 w1 rs→CallsV P K ([vOf agg cs]++caps) w1 (fun v w'=>∃ μ2,v=.bool b∧Le μ1 μ2∧Sq μ2 w0 w' rs)
theorem FnOk.up {P:Program} {μ μ':M} {K:Nat} {caps:List Value} {α:Type} [Mo α] {agg:Bool} {pf:α→Option Bool} (h:FnOk P μ K caps agg pf) (l:Le μ μ'):FnOk P μ' K caps agg pf:=⟨h.isfn,fun hl=>h.call (l.t hl)⟩
end Go.Xt
namespace Go.Xt
open Go.Wk Go.RowKit
section
variable {P:Program} {Q:Exit→Act→World→Prop} {K:List Value→List Deferred→World→Prop} {fr fr':List Value} {ds:List Deferred} {w w':World}
variable {dst:Option Tmp} {ty:TypeId} {pos:String} {after:Array Edge} {g:Option (Nat×Bool)}
variable {w0:World} {rs rs':List Res} {μ μ':M}
variable {T:TypeId} {d:TypeDesc} {ag:Bool} {zc:List Value} {n m:Nat}
theorem nilpe {t e:TypeId} (hu:P.underlying t=some (.pointer e)):EqV P 1 t (.pointer none) (.pointer none) true:=⟨fun d w hd=>by
 cases d with
 | zero=>omega
 | succ d=>simp [Op.equalIn,run_underlying hu]⟩
theorem u_nilpeql {x:Operand} {t t' e:TypeId} (hu:P.underlying t=some (.pointer e)) (hx:Ev fr x (.pointer none)):PU P (Oper.mk dst (.binOp .eql t x (.const (.pointer none)) t') ty pos after g) fr (.bool true):=⟨fun ds w=>by
 have h1:=hx ds
 have h2:(F fr ds).eval (.const (.pointer none))=.pointer none:=rfl
 have h3:=(nilpe hu).out Op.maxDepth w (by decide)
 simp [execOp,h1,h2,eqGuard,binOp,Op.equal,h3]⟩
theorem s_nilpeql {x:Operand} {t t' e:TypeId} (hu:P.underlying t=some (.pointer e)) (hx:Ev fr x (.pointer none)) (hp:Dt fr dst (.bool true) fr') (h:K fr' ds w):OW P (Oper.mk dst (.binOp .eql t x (.const (.pointer none)) t') ty pos after g) fr ds w K Q:=su (u_nilpeql hu hx) hp h
end
end Go.Xt
namespace Go.Xt
open Go.Wk Go.RowKit
instance:Mo UInt8 where
 sz:=1
 pos:=by decide
 cs _ l x:=l=[.int .u8 x.toNat]
 ln h:=by rw [h]; rfl
 up _ h:=h
 cv h:=by rw [h]; rfl
def scont (l sub:List UInt8):Option Bool:=if l.length<4294967281 then some (Lib.contains l sub) else none
end Go.Xt
namespace Go.Xt
open Go.Wk Go.RowKit
section
variable {μ ν:M} {w0 w w':World} {rs:List Res} {T:TypeId}
theorem _root_.Go.Wk.Row.shape {v:Value} {sz n:Nat} {xs:List Value} (h:Row w v T sz n xs):∃ a c,v=.slice a n c:=by
 rcases h.2 with ⟨rfl,rfl⟩ | ⟨g,o,cap,cur,rfl,-⟩
 ·exact ⟨_,_,rfl⟩
 ·exact ⟨_,_,rfl⟩
end
section
variable {P:Program} {Q:Exit→Act→World→Prop} {K:List Value→List Deferred→World→Prop} {fr fr':List Value} {ds:List Deferred} {w w':World}
variable {dst:Option Tmp} {ty:TypeId} {pos:String} {after:Array Edge} {g:Option (Nat×Bool)} {T:TypeId} {ag:Bool} {zc:List Value} {rs rs':List Res} {μ:M} {w0:World}
end
end Go.Xt
namespace Go.Xt
open Go.Wk Go.RowKit
def mfind (N:List (List UInt8×Int)) (y:Int):Option (Option (List UInt8×Int)) :=
 if (N.filter fun e=>decide (e.2=y)).length≤1 then some (N.filter fun e=>decide (e.2=y)).head? else none
section
variable {P:Program} {Q:Exit→Act→World→Prop} {K:List Value→List Deferred→World→Prop} {fr fr':List Value} {ds:List Deferred} {w:World}
variable {dst:Option Tmp} {ty:TypeId} {pos:String} {after:Array Edge} {g:Option (Nat×Bool)}
variable {w0:World} {rs rs':List Res} {μ μ':M}
variable {T:TypeId}
theorem s_rangeR {x:Operand} {kt et:TypeId} {m c:Nat} {es:List MapEntry} (hT:P.underlying T=some (.map kt et)) (hx:Ev fr x (.map (some m))) (hS:Sq μ w0 w rs) (hb:w.heap[m]?=some (.map ⟨es⟩ c))
  (h:∀ b w',w.heap.size≤b→Sq μ w0 w' (.mit b m c [] c::rs)→Put fr dst (.pointer (some ⟨b,0,none⟩)) fun fr'=>K fr' ds w'):OW P (Oper.mk dst (.range T x) ty pos after g) fr ds w K Q:=by
 obtain ⟨fr',hd⟩:=dt_ex fr dst (.pointer (some ⟨w.heap.size,0,none⟩))
 refine op_v (v:=.pointer (some ⟨w.heap.size,0,none⟩)) (w':=w.alloc (.mapIter (some m) c #[] c)) ?_ hd (h _ _ (Nat.le_refl _) (hS.alloc rfl (heap_alloc_new w _)) fr' hd)
 simp [execOp,hx ds,Instr.range,run_underlying hT,getObj,Sem.run,hb,Result.andThen]
def leftOf (es:List MapEntry) (seen:List Nat):List MapEntry:=es.filter fun e=>!seen.contains e.born
theorem mem_left {es:List MapEntry} {seen:List Nat} {e:MapEntry}:e ∈ leftOf es seen ↔ e ∈ es∧e.born ∉ seen:=by
 simp [leftOf,List.mem_filter]
theorem left_arr {es:List MapEntry} {seen:List Nat} {c:Nat} (hlt:∀ e ∈ es,e.born<c) :
  ((⟨es⟩:Array MapEntry).filter fun e=>!(⟨seen⟩:Array Nat).contains e.born)=⟨leftOf es seen⟩ ∧
  ((⟨leftOf es seen⟩:Array MapEntry).filter fun e=>decide (e.born<c))=⟨leftOf es seen⟩∧((⟨leftOf es seen⟩:Array MapEntry).filter fun e=>decide (e.born ≥ c))=#[]:=by
 have h1:(leftOf es seen).filter (fun e=>decide (e.born<c))=leftOf es seen:=List.filter_eq_self.2 fun e he=>by simpa using hlt e (mem_left.1 he).1
 have h2:(leftOf es seen).filter (fun e=>decide (e.born ≥ c))=[]:=List.filter_eq_nil_iff.2 fun e he=>by have:=hlt e (mem_left.1 he).1; simp; omega
 refine ⟨?_,?_,?_⟩
 ·rw [List.filter_toArray]
  simp [leftOf]
 ·rw [List.filter_toArray,h1]
 ·rw [List.filter_toArray,h2]
theorem not_all {es:List MapEntry} {seen:List Nat} {c:Nat} (hlt:∀ e ∈ es,e.born<c):(!(⟨seen⟩:Array Nat).isEmpty && !(⟨es⟩:Array MapEntry).isEmpty && (⟨es⟩:Array MapEntry).all (fun e=>decide (e.born ≥ c)))=false:=by
 cases es with
 | nil=>simp
 | cons e es =>
  have:=hlt e (List.mem_cons_self ..)
  have h:¬ c≤e.born:=by omega
  simp only [List.all_toArray,List.all_cons]
  simp [h]
theorem s_nextR {x:Operand} {b m c ki:Nat} {es:List MapEntry} {seen:List Nat} {N:List (List UInt8×Int)} {ν:M} (hx:Ev fr x (.pointer (some ⟨b,0,none⟩))) (hS:Sq μ w0 w rs) (hi:Lk rs ki (.mit b m c seen c)) (hb2:w.heap[m]?=some (.map ⟨es⟩ c)) (hq:Mq ν es c N)
  (hA:∀ (k:List UInt8) (y:Int) (n:Nat),⟨S k,.int .i64 y,n⟩ ∈ leftOf es seen→∀ w' rs',Pt rs ki (.mit b m c (seen++[n]) c) rs'→Sq μ w0 w' rs'→Put fr dst (.tuple ⟨[.bool true,S k,.int .i64 y]⟩) fun fr'=>K fr' ds w')
  (hB:leftOf es seen=[]→Put fr dst (.tuple ⟨[.bool false]⟩) fun fr'=>K fr' ds w) :
  OW P (Oper.mk dst (.next x false) ty pos after g) fr ds w K Q:=by
 have hb:w.heap[b]?=some (.mapIter (some m) c ⟨seen⟩ c):=hS.get hi
 have hlt:b<w.heap.size:=(Array.getElem?_eq_some_iff.1 hb).1
 obtain ⟨l1,l2,l3⟩:=left_arr (seen:=seen) hq.lt
 have l4:=not_all (seen:=seen) hq.lt
 have key:∀ e ∈ leftOf es seen,∃ (k:List UInt8) (y:Int),e=⟨S k,.int .i64 y,e.born⟩:=by
  intro e he
  have he:=(mem_left.1 he).1
  have:∀ (es:List MapEntry) (N:List (List UInt8×Int)),Es ν es N→∀ e ∈ es,∃ (k:List UInt8) (y:Int),e=⟨S k,.int .i64 y,e.born⟩:=by
   intro es
   induction es with
   | nil=>intro N _ e he; cases he
   | cons a es ih =>
    intro N h e he
    rw [Es] at h
    obtain ⟨k,x,t,h1,h2,h3,h4⟩:=h
    rcases List.mem_cons.1 he with rfl | he
    ·obtain ⟨a,b,n⟩:=e
     have h2:a=S k:=h2
     have h3:b=.int .i64 x:=h3
     subst h2; subst h3
     exact ⟨k,x,rfl⟩
    ·exact ih t h4 e he
  exact this es N hq.kv e he
 cases hL:leftOf es seen with
 | nil =>
  obtain ⟨fr',hd⟩:=dt_ex fr dst (.tuple ⟨[.bool false]⟩)
  refine op_v (w':=w) ?_ hd (hB hL fr' hd)
  rw [hL] at l1 l2 l3
  simp only [execOp,hx ds,Instr.next,getObj,Sem.run_bind,Sem.run,hb,Result.andThen,hb2,l4,Bool.false_eq_true,if_false,l1,l2,l3]
  simp [Sem.run,Result.andThen,choose,Question.forced]
 | cons e0 t0 =>
  rw [hL] at l1 l2 l3
  by_cases h1:t0=[]
  ·subst h1
   obtain ⟨k,y,e⟩:=key e0 (by rw [hL]; exact List.mem_singleton.2 rfl)
   obtain ⟨hk,hh⟩:=seen_put w b (.mapIter (some m) c ⟨seen++[e0.born]⟩ c) hlt
   obtain ⟨fr',hd'⟩:=dt_ex fr dst (.tuple ⟨[.bool true,S k,.int .i64 y]⟩)
   refine op_v (w':={ w with heap:=w.heap.setIfInBounds b (.mapIter (some m) c ⟨seen++[e0.born]⟩ c) }) ?_ hd' (hA k y e0.born (by rw [hL,← e]; exact List.mem_singleton.2 rfl) _ _ rfl (hS.put (b:=b) hi rfl rfl rfl hh hk) fr' hd')
   rw [e] at l1 l2 l3
   simp only [execOp,hx ds,Instr.next,getObj,Sem.run_bind,Sem.run,hb,Result.andThen,hb2,l4,Bool.false_eq_true,if_false,l1,l2,l3]
   simp [Sem.run,Result.andThen,choose,Question.forced,setObj,hb]
  ·have hlen:¬ (e0::t0).length≤1:=by
    cases t0 with
    | nil=>exact absurd rfl h1
    | cons _ _=>simp
   let i:=(w.tape w.drawn (.mapNext (e0::t0).length)) % (e0::t0).length
   have hi':i<(e0::t0).length:=Nat.mod_lt _ (by simp)
   obtain ⟨k,y,e⟩:=key ((e0::t0)[i]) (by rw [hL]; exact List.getElem_mem hi')
   obtain ⟨hk,hh⟩:=seen_put w.drew b (.mapIter (some m) c ⟨seen++[((e0::t0)[i]).born]⟩ c) hlt
   obtain ⟨fr',hd'⟩:=dt_ex fr dst (.tuple ⟨[.bool true,S k,.int .i64 y]⟩)
   refine op_v (w':={ w.drew with heap:=w.drew.heap.setIfInBounds b (.mapIter (some m) c ⟨seen++[((e0::t0)[i]).born]⟩ c) }) ?_ hd' (hA k y ((e0::t0)[i]).born (by rw [hL,← e]; exact List.getElem_mem hi') _ _ rfl ((hS.drew (w':=w.drew) rfl rfl rfl rfl).put (b:=b) hi rfl rfl rfl hh hk) fr' hd')
   have hbd:w.drew.heap[b]?=some (.mapIter (some m) c ⟨seen⟩ c):=hb
   have hsz:((if (⟨e0::t0⟩:Array MapEntry).isEmpty=true then #[none] else #[])++((⟨e0::t0⟩:Array MapEntry)++#[]).map some)=⟨(e0::t0).map some⟩:=by simp
   simp only [execOp,hx ds,Instr.next,getObj,Sem.run_bind,Sem.run,hb,Result.andThen,hb2,l4,Bool.false_eq_true,if_false,l1,l2,l3,hsz]
   have hs:(⟨(e0::t0).map some⟩:Array (Option MapEntry)).size=(e0::t0).length:=by simp
   have hf:(Question.mapNext (e0::t0).length).forced=false:=decide_eq_false hlen
   have hg:(⟨(e0::t0).map some⟩:Array (Option MapEntry))[(Question.mapNext (e0::t0).length).cut (w.tape w.drawn (.mapNext (e0::t0).length))]?=some (some ((e0::t0)[i])):=by
    show (⟨(e0::t0).map some⟩:Array (Option MapEntry))[i]?=_
    rw [List.getElem?_toArray,List.getElem?_map,List.getElem?_eq_getElem hi']
    rfl
   simp only [hs,choose,Sem.run,hf,hg,Bool.false_eq_true,if_false]
   generalize (e0::t0)[i]=e1 at *
   rw [e]
   simp [Sem.run,Result.andThen,setObj,hbd]
theorem find_born {n:Nat}:∀ {es:List MapEntry} {e:MapEntry},(es.Pairwise fun a b=>a.born<b.born)→e ∈ es→e.born=n→es.find? (fun a=>a.born == n)=some e
 | a::es,e,h,he,hn=>by
  rw [List.find?_cons]
  rcases List.mem_cons.1 he with rfl | he'
  ·simp [hn]
  ·have h1:=(List.pairwise_cons.1 h).1 e he'
   have:¬ a.born=n:=by omega
   simp only [beq_eq_false_iff_ne.2 this]
   exact find_born (List.pairwise_cons.1 h).2 he' hn
theorem s_entryR {x:Operand} {b m c ki n:Nat} {es:List MapEntry} {seen:List Nat} {N:List (List UInt8×Int)} {ν:M} {k:List UInt8} {y:Int} (hx:Ev fr x (.pointer (some ⟨b,0,none⟩))) (hS:Sq μ w0 w rs) (hi:Lk rs ki (.mit b m c (seen++[n]) c)) (hb2:w.heap[m]?=some (.map ⟨es⟩ c)) (hq:Mq ν es c N) {s':List Nat} (he:⟨S k,.int .i64 y,n⟩ ∈ leftOf es s')
  (hd:Dt fr dst (.tuple ⟨[S k,.int .i64 y]⟩) fr') (h:K fr' ds w) :
  OW P (Oper.mk dst (.entry x) ty pos after g) fr ds w K Q:=by
 have hb:w.heap[b]?=some (.mapIter (some m) c ⟨seen++[n]⟩ c):=hS.get hi
 have hbk:(⟨seen++[n]⟩:Array Nat).back?=some n:=by simp [Array.back?]
 have hf:(⟨es⟩:Array MapEntry).find? (fun a=>a.born == n)=some ⟨S k,.int .i64 y,n⟩:=by rw [List.find?_toArray]; exact find_born hq.inc (mem_left.1 he).1 rfl
 refine op_v (w':=w) ?_ hd h
 simp only [execOp,hx ds,Instr.entry,getObj,Sem.run_bind,Sem.run,hb,Result.andThen,hb2,hbk,hf]
 simp [Sem.run]
def Mz (es:List MapEntry) (seen:List Nat) (y:Int) (n:Nat):Prop:=(leftOf es seen).length=n∧∀ e ∈ es,e.born ∈ seen→e.val≠.int .i64 y
theorem Mz.start {es:List MapEntry} {y:Int}:Mz es [] y es.length:=⟨by rw [leftOf,List.filter_eq_self.2 (by simp)],by simp⟩
theorem Mz.step {es:List MapEntry} {seen:List Nat} {y x:Int} {n m c:Nat} {k:List UInt8} {N:List (List UInt8×Int)} {ν:M} (h:Mz es seen y n) (hq:Mq ν es c N) (he:⟨S k,.int .i64 x,m⟩ ∈ leftOf es seen) (hx:¬ x=y):∃ n',n'<n∧Mz es (seen++[m]) y n':=by
 obtain ⟨h1,h2⟩:=h
 refine ⟨_,?_,rfl,fun e hm hb=>?_⟩
 ·rw [← h1]
  have e:leftOf es (seen++[m])=(leftOf es seen).filter fun a=>decide (a.born≠m):=by
   rw [leftOf,leftOf,List.filter_filter]
   apply List.filter_congr
   intro a _
   by_cases q:a.born=m <;> simp [q]
  rw [e]
  refine Nat.lt_of_le_of_ne (List.length_filter_le ..) fun hh=>?_
  have:=(List.length_filter_eq_length_iff.1 hh) _ he
  simp at this
 ·rcases List.mem_append.1 hb with hb | hb
  ·exact h2 e hm hb
  ·have hb:=List.mem_singleton.1 hb
   have e1:=find_born hq.inc hm hb
   have e2:=find_born hq.inc (mem_left.1 he).1 rfl
   rw [e1] at e2
   rw [Option.some.inj e2]
   intro q
   cases q
   exact hx rfl
theorem Es.mem_of {ν:M} {k:List UInt8} {y:Int} {n:Nat}:∀ {es:List MapEntry} {N:List (List UInt8×Int)},Es ν es N→(⟨S k,.int .i64 y,n⟩:MapEntry) ∈ es→(k,y) ∈ N
 | a::es,N,h,he=>by
  rw [Es] at h
  obtain ⟨k',x,t,rfl,h2,h3,h4⟩:=h
  rcases List.mem_cons.1 he with rfl | he
  ·have h2:S k=S k':=h2
   have h3:Value.int .i64 y=.int .i64 x:=h3
   cases h3
   cases h2
   exact List.mem_cons_self ..
  ·exact List.mem_cons_of_mem _ (Es.mem_of h4 he)
theorem Es.of_mem {ν:M} {k:List UInt8} {y:Int}:∀ {es:List MapEntry} {N:List (List UInt8×Int)},Es ν es N→(k,y) ∈ N→∃ e ∈ es,e.val=.int .i64 y
 | [],N,h,he=>by rw [Es] at h; subst h; cases he
 | a::es,N,h,he=>by
  rw [Es] at h
  obtain ⟨k',x,t,rfl,h2,h3,h4⟩:=h
  rcases List.mem_cons.1 he with e | he
  ·cases e
   exact ⟨a,List.mem_cons_self ..,h3⟩
  ·obtain ⟨e,h5,h6⟩:=Es.of_mem h4 he
   exact ⟨e,List.mem_cons_of_mem _ h5,h6⟩
theorem Mz.hit {es:List MapEntry} {seen:List Nat} {y x:Int} {m c:Nat} {k:List UInt8} {N:List (List UInt8×Int)} {ν:M} {o:Option (List UInt8×Int)} (hq:Mq ν es c N) (he:⟨S k,.int .i64 x,m⟩ ∈ leftOf es seen) (hx:x=y) (g:mfind N y=some o):o.isSome=true∧k=(o.getD ([],0)).1:=by
 subst hx
 have hm:=Es.mem_of hq.kv (mem_left.1 he).1
 rw [mfind] at g
 split at g
 ·rename_i hl
  obtain rfl:=Option.some.inj g
  have hin:(k,x) ∈ N.filter fun e=>decide (e.2=x):=List.mem_filter.2 ⟨hm,by simp⟩
  have aux:∀ F:List (List UInt8×Int),F.length≤1→(k,x) ∈ F→F.head?=some (k,x):=by
   intro F h1 h2
   match F,h1,h2 with
   | [a],_,h2=>rw [List.mem_singleton.1 h2]; rfl
   | _::_::_,h1,_=>simp at h1
  rw [aux _ hl hin]
  exact ⟨rfl,rfl⟩
 ·cases g
theorem Mz.fin {es:List MapEntry} {seen:List Nat} {y:Int} {n c:Nat} {N:List (List UInt8×Int)} {ν:M} {o:Option (List UInt8×Int)} (h:Mz es seen y n) (hq:Mq ν es c N) (hl:leftOf es seen=[]) (g:mfind N y=some o):¬ o.isSome=true:=by
 have he:N.filter (fun e=>decide (e.2=y))=[]:=by
  rw [List.filter_eq_nil_iff]
  intro a ha hy
  obtain ⟨k,x⟩:=a
  have hy:x=y:=by simpa using hy
  subst hy
  obtain ⟨e,h1,h2⟩:=Es.of_mem hq.kv ha
  by_cases hb:e.born ∈ seen
  ·exact h.2 e h1 hb h2
  ·have:e ∈ leftOf es seen:=mem_left.2 ⟨h1,hb⟩
   rw [hl] at this
   cases this
 rw [mfind,he] at g
 obtain rfl:=Option.some.inj g
 simp
abbrev MzM (_:M) (es:List MapEntry) (seen:List Nat) (y:Int) (n:Nat):Prop:=Mz es seen y n
end
end Go.Xt
namespace Go.Xt
open Go.Wk Go.RowKit
def fmt10 (n:Int):Option (List UInt8):=if -9223372036854775808≤n∧n≤9223372036854775807 then some (Lib.itoa n) else none
def Bp (_:M) (b:Nat) (v:Value):Prop:=v=.pointer none∨v=.pointer (some ⟨b,0,none⟩)
theorem Bp.nil {μ:M} {b:Nat}:Bp μ b (.pointer none):=.inl rfl
theorem Bp.up {μ μ':M} {b:Nat} {v:Value} (h:Bp μ b v) (_:Le μ μ'):Bp μ' b v:=h
theorem mget_mput {κ β:Type} [DecidableEq κ]:∀ (m:List (κ×β)) (a k:κ) (x:β),mget (mput m a x) k=if a=k then some x else mget m k
 | [],a,k,x=>by simp [mput,mget]
 | (b,y)::m,a,k,x=>by
  by_cases h:b=a
  ·subst h; simp only [mput,mget,if_pos]; split <;> rfl
  ·simp only [mput,mget,if_neg h,mget_mput m a k x]
   by_cases h2:b=k
   ·subst h2; simp [Ne.symm h]
   ·simp [h2]
theorem mget_swap {κ β:Type} [DecidableEq κ] {m:List (κ×β)} {a b k:κ} {x y:β} (h:a≠b):mget (mput (mput m a x) b y) k=mget (mput (mput m b y) a x) k:=by
 simp only [mget_mput]
 split <;> split <;> simp_all
section
variable {P:Program} {w:World} {T:TypeId} {zc:List Value} {n:Nat}
theorem run_append_str {t u ty:TypeId} (ht:P.underlying t=some (.slice T)) (hu:P.underlying u=some .string) (hE:TI P T false zc 1 1) (hz:zc=[.int .u8 0])
  {v:Value} {xs:List Value} (hown:Row w v T 1 n xs) (s:ByteArray) (h63:n+s.size≤maxLen) (hbytes:n+s.size≤140737488355328) :
  ∃ v' w',(Builtin.append_ #[t,u] ty #[v,.string s]).run P w=.ok v' w'∧Row w' v' T 1 (n+s.size) (xs++Lib.strCells s)∧Keeps (fun b=>some b≠v.ownBlock) w w' ∧
   (v'.ownBlock=v.ownBlock∨∃ b,v'.ownBlock=some b∧w.heap.size≤b):=by
 obtain ⟨i,z,hi,hiz,hzc,hsz,hby⟩:=hE.inf
 have hzs:z.cells.size=1:=by rw [hzc,hz]; rfl
 have hsmall:n+s.size≤9223372036854775807:=by simp only [maxLen] at h63; omega
 have hl:(Lib.strCells s).length=s.size:=Lib.strCells_length s
 have hxl:xs.length=n:=by simpa using hown.1
 have hlen:(xs++Lib.strCells s).length=(n+s.size)*1:=by rw [List.length_append,hxl,hl,Nat.mul_one]
 have grown:∀ (old:Nat),old<n+s.size→∀ (row:Option Nat),
   Row (w.drew.alloc (.cells (xs.toArray++(Lib.strCells s).toArray++Builtin.zeroCells z.cells (grownCap w (n+s.size) old T - (n+s.size))) T)) (.slice (some ⟨w.heap.size,0,none⟩) (n+s.size) (grownCap w (n+s.size) old T)) T 1 (n+s.size) (xs++Lib.strCells s) ∧
   Keeps (fun b=>some b≠row) w (w.drew.alloc (.cells (xs.toArray++(Lib.strCells s).toArray++Builtin.zeroCells z.cells (grownCap w (n+s.size) old T - (n+s.size))) T)):=by
  intro old ho row
  have hge:=grownCap_ge w (n+s.size) old T
  have hcm:grownCap w (n+s.size) old T≤maxLen:=grownCap_le_maxLen w (n+s.size) old T h63
  refine ⟨⟨hlen,.inr ⟨w.heap.size,0,_,_,rfl,heap_alloc_new w.drew _,hge,hcm,?_,?_⟩⟩,⟨rfl,rfl,rfl,by simp,fun k hk _=>by first | exact heap_alloc_old w.drew _ k hk | exact heap_alloc_old w.drew _ hk⟩⟩
  ·simp only [Array.size_append,List.size_toArray,size_zeroCells,hzs,hxl,hl]
   omega
  ·simp only [Array.toList_append,List.append_assoc,List.drop_zero]
   rw [← List.append_assoc,← hlen]
   exact List.take_left
 rcases hown.2 with ⟨rfl,rfl⟩ | ⟨g,o,cap,cur,rfl,hg,hnc,hcm,hcs,htake⟩
 ·have hx:xs=[]:=List.eq_nil_of_length_eq_zero hxl
  subst hx
  by_cases hm:s.size=0
  ·have hn:Lib.strCells s=[]:=List.eq_nil_of_length_eq_zero (by omega)
   refine ⟨.slice none 0 0,w,?_,⟨by simp [hn,hm],.inl ⟨rfl,by omega⟩⟩,.refl w,.inl rfl⟩
   have hf:=Lib.run_firstCells_string (P:=P) w i.size s
   rw [hm] at hf
   simp [Builtin.append_,run_underlying ht,run_underlying hu,sizeOf,typeInfo,hi,Builtin.lenOf,hm,Builtin.firstCells,loadCells,loadCellsFrom]
  ·have hr:=run_append_nil_string (P:=P) w t u ty T i z ht hu hi hiz s (by omega) (by omega) (by rw [hby]; omega)
   have hgr:=grown 0 (by omega) (Value.ownBlock (.slice none 0 0))
   simp only [Nat.zero_add,List.nil_append,Array.empty_append] at hgr ⊢
   refine ⟨_,_,hr,?_,?_,.inr ⟨_,rfl,Nat.le_refl _⟩⟩
   ·have e:(s.data.map fun b=>Value.int .u8 b.toNat)=(Lib.strCells s).toArray:=by
     apply Array.ext'
     simp [Lib.strCells]
    rw [e]
    exact hgr.1
   ·have e:(s.data.map fun b=>Value.int .u8 b.toNat)=(Lib.strCells s).toArray:=by
     apply Array.ext'
     simp [Lib.strCells]
    rw [e]
    exact hgr.2
 ·by_cases hroom:n+s.size≤cap
  ·have hfit:o+n+s.size≤cur.size:=by omega
   have hr:(Builtin.append_ #[t,u] ty #[.slice (some ⟨g,o,none⟩) n cap,.string s]).run P w =
     .ok (.slice (some ⟨g,o,none⟩) (n+s.size) cap) (w.setRow g (cur.toList.take (o+n)++Lib.strCells s++cur.toList.drop (o+n+s.size)).toArray):=by
    have hf:=Lib.run_firstCells_string (P:=P) w 1 s
    have hst:=run_storeCells_at P g (o+n) T (Lib.strCells s) 0 cur w hg (by simpa [hl] using hfit) (Lib.strCells_oneCell s)
    simp only [Nat.add_zero,hl] at hst
    simp [Builtin.append_,run_underlying ht,run_underlying hu,sizeOf,typeInfo,hi,hsz,Builtin.lenOf,hroom,hf,add_addr,hst]
   refine ⟨_,_,hr,⟨hlen,.inr ⟨g,o,cap,_,rfl,setRow_heap w g cur _ T _ hg,hroom,hcm,?_,?_⟩⟩,⟨rfl,rfl,rfl,by simp [World.setRow],fun k _ hk=>setRow_other w g k _ (fun e=>hk (by simp [Value.ownBlock,e]))⟩,.inl rfl⟩
   ·simp only [List.size_toArray,List.length_append,List.length_take,List.length_drop,Array.length_toList,hl]
    omega
   ·rw [← hlen,← htake]
    have e1:(cur.toList.take (o+n)).drop o=(cur.toList.drop o).take (n*1):=by
     rw [List.drop_take]; congr 1; omega
    have hlo:o≤(cur.toList.take (o+n)).length:=by simp; omega
    rw [List.append_assoc,List.drop_append_of_le_length hlo,e1,← List.append_assoc]
    exact List.take_left
  ·have holds:∀ j u,xs[j]?=some u→w.cell? ((⟨g,o,none⟩:Addr).add j)=some u:=by
    intro j u hu
    rw [add_addr,cell_of_row w g (o+j) cur T (0,0) hg]
    rw [← htake,List.getElem?_take] at hu
    split at hu
    ·rw [List.getElem?_drop] at hu; simpa using hu
    ·cases hu
   have hr:=Lib.run_append_grow_string (P:=P) w t u ty T i z ht hu hi hiz ⟨g,o,none⟩ n cap xs (by rw [hsz]; exact hown.1) holds s (by omega) (by omega) (growslice_fits (by omega) (by rw [hby]; omega))
   have hgr:=grown cap (by omega) (Value.ownBlock (.slice (some ⟨g,o,none⟩) n cap))
   exact ⟨_,_,hr,hgr.1,hgr.2,.inr ⟨_,rfl,Nat.le_refl _⟩⟩
end
section
variable {P:Program} {Q:Exit→Act→World→Prop} {K:List Value→List Deferred→World→Prop} {fr fr':List Value} {ds:List Deferred} {w:World}
variable {dst:Option Tmp} {ty:TypeId} {pos:String} {after:Array Edge} {g:Option (Nat×Bool)}
variable {w0:World} {rs rs':List Res} {μ μ':M}
variable {T:TypeId}
theorem s_appStr {t u:TypeId} {s x:Operand} {v:Value} {k:Nat} {cells:List Value} {l y l':List UInt8} (ht:P.underlying t=some (.slice T)) (hu:P.underlying u=some .string) (hE:TI P T false [.int .u8 0] 1 1)
  (hs:Ev fr s v) (hx:Ev fr x (S y)) (hS:Sq μ w0 w rs) (hl:Lk rs k (.row v T 1 l.length cells)) (gg:app l y=some l')
  (h:∀ v' w' rs',Pt rs k (.row v' T 1 l'.length (cells++Lib.strCells ⟨⟨y⟩⟩)) rs'→Sq μ w0 w' rs'→Put fr dst v' fun fr'=>K fr' ds w') :
  OW P (Oper.mk dst (.call { callee:=.builtin .append,args:=#[s,x],argTypes:=#[t,u] }) ty pos after g) fr ds w K Q:=by
 obtain ⟨h1,h2⟩:=app_len gg
 have hz:(⟨⟨y⟩⟩:ByteArray).size=y.length:=rfl
 obtain ⟨v',w',hr,hrow,hk,hv⟩:=run_append_str (P:=P) (ty:=ty) ht hu hE rfl (hS.get hl) ⟨⟨y⟩⟩ (by rw [hz]; unfold maxLen; omega) (by rw [hz]; omega)
 rw [hz,← h1] at hrow
 obtain ⟨fr',hd⟩:=dt_ex fr dst v'
 refine op_v (v:=v') (w':=w') ?_ hd (h v' w' _ rfl (hS.row hl rfl hrow hk hv) fr' hd)
 have e1:=hs ds
 have e2:=hx ds
 simp [execOp,resolve,invoke,builtin,e1,e2,S,hr]
end
theorem Rw.str {μ:M}:∀ y:List UInt8,Rw μ (Lib.strCells ⟨⟨y⟩⟩) y
 | []=>Rw.nil
 | c::y=>by
  exact Rw.cons (α:=UInt8) (cs:=[.int .u8 (c.toNat:Int)]) rfl (Rw.str y)
section
variable {P:Program} (w:World)
theorem liesAt_off {e:TypeId} (hc:P.cellsOf e=1) (count o n:Nat) (hn:o+n≤count):liesAt P P.depth e count o e n=true:=by
 have hd:P.depth=(2*(P.types.size+Made.depth)+1)+1:=rfl
 rw [hd]
 simp only [liesAt,Bool.or_eq_true]
 left
 rw [hd]
 simp [rowAt,hc,sameLayout]
 omega
theorem run_unsafeString_off (pt it ty e:TypeId) (hp:P.underlying pt=some (.pointer e)) (hc:P.cellsOf e=1) (g o cells:Nat) (hsh:w.shape? g=some (e,cells)) (l:List UInt8) (h0:l≠[]) (hn:o+l.length≤cells) (h63:l.length≤9223372036854775807)
  (hcell:∀ j x,l[j]?=some x→w.cell? ((⟨g,o,none⟩:Addr).add j)=some (.int .u8 x.toNat)) :
  (Builtin.unsafeString_ #[pt,it] ty #[.pointer (some ⟨g,o,none⟩),.int .i64 l.length]).run P w=.ok (.string ⟨l.toArray⟩) (w.freeze ⟨g,o,none⟩ l.length):=by
 have hl:l.length≠0:=by simpa using h0
 have hlb:=Lib.run_loadBytes (P:=P) w l ⟨g,o,none⟩ .empty hcell
 have hlies:=liesAt_off (P:=P) hc (cells / P.cellsOf e) o l.length (by rw [hc]; simpa using hn)
 have h63':¬ (9223372036854775807:Int)<(l.length:Int):=by omega
 have hdef:Builtin.unsafeString_ #[pt,it] ty #[.pointer (some ⟨g,o,none⟩),.int .i64 l.length] =
   (do
    let n ← asInt (.int .i64 l.length)
    if n < 0 then runtimePanic (.error "unsafe.String: len out of range")
    if n > IntKind.i64.max then unsupported (.unsafePointer "String: a length above the largest int")
    if n=0 then pure (.string .empty)
    else if ← variablesAt ⟨g,o,none⟩ (← elemOf pt) n.toNat then do
     let s ← loadBytes ⟨g,o,none⟩ .empty n.toNat
     freeze ⟨g,o,none⟩ n.toNat
     pure (.string s)
    else unsupported (.unsafePointer "String: not so many bytes at ptr")) := rfl
 rw [hdef]
 have hmax:IntKind.i64.max=9223372036854775807:=rfl
 have hneg:¬ (l.length:Int)<0:=by omega
 simp [asInt,asIntOf,hmax,h63',hneg,hl,variablesAt,hsh,elemOf,run_underlying hp,hlies,hlb]
end
end Go.Xt
namespace Go.Xt
abbrev wd (l:List UInt8) (p:Nat):Nat:=(Utf8.decode ⟨⟨l⟩⟩ p).2
end Go.Xt
namespace Go.Xt
open Go.Wk Go.RowKit
theorem Rw.bytes {μ:M}:∀ {l:List UInt8} {cs:List Value},Rw μ cs l→cs=l.map fun x=>.int .u8 (x.toNat:Int)
 | [],cs,h=>h
 | c::l,cs,h=>by
  obtain ⟨a,t,rfl,h1,h2⟩:=h
  have h1:a=[.int .u8 (c.toNat:Int)]:=h1
  rw [h1,Rw.bytes h2]
  rfl
section
variable {P:Program} {Q:Exit→Act→World→Prop} {K:List Value→List Deferred→World→Prop} {fr fr':List Value} {ds:List Deferred} {w:World}
variable {dst:Option Tmp} {ty:TypeId} {pos:String} {after:Array Edge} {gg:Option (Nat×Bool)}
variable {w0:World} {rs rs':List Res} {μ μ':M}
variable {T:TypeId}
theorem s_ustr {pt it:TypeId} {x y:Operand} {l:List UInt8} {v:Value} {cs:List Value} {a p:Option Addr} {k cap:Nat} (ha:l≠[]→p=a) (hp:P.underlying pt=some (.pointer T)) (hc:P.cellsOf T=1) (hv:v=.slice a l.length cap)
  (hx:Ev fr x (.pointer p)) (hy:Ev fr y (.int .i64 (l.length:Int))) (hS:Sq μ w0 w rs) (hl:Lk rs k (.row v T 1 l.length cs)) (hm:Rw μ cs l)
  (h:∀ w' r' rs',Pt rs k r' rs'→Sq μ w0 w' rs'→Put fr dst (S l) fun fr'=>K fr' ds w') :
  OW P (Oper.mk dst (.call { callee:=.builtin .unsafeString,args:=#[x,y],argTypes:=#[pt,it] }) ty pos after gg) fr ds w K Q:=by
 subst hv
 have e1:=hx ds
 have e2:=hy ds
 by_cases h0:l=[]
 ·subst h0
  obtain ⟨fr',hd⟩:=dt_ex fr dst (S [])
  have hs:rs.set k (.row (.slice a 0 cap) T 1 0 cs)=rs:=by
   obtain ⟨hlt,he⟩:=List.getElem?_eq_some_iff.1 hl
   have he:rs[k]=.row (.slice a 0 cap) T 1 0 cs:=he
   rw [← he]
   exact List.set_getElem_self hlt
  refine op_v (v:=S []) (w':=w) ?_ hd (h w (.row (.slice a 0 cap) T 1 0 cs) _ rfl (by rw [hs]; exact hS) fr' hd)
  have e3:=Lib.run_unsafeString_none (P:=P) w pt it ty p
  simp only [List.length_nil] at e2
  simp [execOp,resolve,invoke,builtin,e1,e2,e3,S]
  rfl
 ·obtain rfl:=ha h0
  obtain ⟨h1,h2⟩:=hS.get hl
  rcases h2 with ⟨hv,hn⟩ | ⟨g,o,cap',cur,hv,hg,hnc,hcm,hcs,htake⟩
  ·exact absurd (List.length_eq_zero_iff.1 hn) h0
  ·cases hv
   have hcell:∀ j x,l[j]?=some x→w.cell? ((⟨g,o,none⟩:Addr).add j)=some (.int .u8 x.toNat):=by
    intro j x hj
    have hjl:j<l.length:=(List.getElem?_eq_some_iff.1 hj).1
    rw [add_addr,cell_of_row w g (o+j) cur T (0,0) hg]
    have:=congrArg (fun t:List Value=>t[j]?) (htake.trans hm.bytes)
    simp only [List.getElem?_take,List.getElem?_drop,List.getElem?_map,hj] at this
    rw [if_pos (by omega)] at this
    simpa using this
   have e3:=run_unsafeString_off (P:=P) w pt it ty T hp hc g o cur.size (by simp [World.shape?,hg]) l h0 (by omega) (by unfold maxLen at hcm; omega) hcell
   obtain ⟨fr',hd⟩:=dt_ex fr dst (S l)
   have hlt:g<w.heap.size:=(Array.getElem?_eq_some_iff.1 hg).1
   have hw:(w.freeze ⟨g,o,none⟩ l.length).heap[g]?=some (.cells cur T (o,o+l.length)):=by
    have hl0:l.length≠0:=by simpa using h0
    simp [World.freeze,hl0,Array.getElem?_modify,hg]
   have hk:Keeps (fun k=>k≠g) w (w.freeze ⟨g,o,none⟩ l.length):=by
    unfold World.freeze
    split
    ·exact .refl w
    ·exact ⟨rfl,rfl,rfl,by simp,fun j _ hj=>by simp [Array.getElem?_modify,Ne.symm hj]⟩
   refine op_v (v:=S l) (w':=w.freeze ⟨g,o,none⟩ l.length) ?_ hd (h _ (.ro g T cur.toList) _ rfl (hS.put hl (b:=g) rfl rfl rfl ⟨_,hw⟩ hk) fr' hd)
   simp [execOp,resolve,invoke,builtin,e1,e2,e3,S]
theorem s_usd {e:TypeId} {x:Operand} {l:List UInt8} {v:Value} {cs:List Value} {a:Option Addr} {k cap:Nat} {ts:Array TypeId} (hp:P.underlying ty=some (.pointer e)) (hv:v=.slice a l.length cap)
  (hx:Ev fr x v) (hS:Sq μ w0 w rs) (hl:Lk rs k (.row v T 1 l.length cs))
  (h:∀ w' p,(l≠[]→p=a)→Sq μ w0 w' rs→Put fr dst (.pointer p) fun fr'=>K fr' ds w') :
  OW P (Oper.mk dst (.call { callee:=.builtin .unsafeSliceData,args:=#[x],argTypes:=ts }) ty pos after gg) fr ds w K Q:=by
 subst hv
 have e1:=hx ds
 cases a with
 | none =>
  obtain ⟨fr',hd⟩:=dt_ex fr dst (.pointer none)
  refine op_v (v:=.pointer none) (w':=w) ?_ hd (h w none (fun _=>rfl) hS fr' hd)
  simp [execOp,resolve,invoke,builtin,e1,Lib.run_unsafeSliceData_nil]
 | some a0 =>
  by_cases hc:cap=0
  ·subst hc
   obtain ⟨h1,h2⟩:=hS.get hl
   rcases h2 with ⟨hv,-⟩ | ⟨g,o,cap',cur,hv,hg,hnc,hcm,hcs,htake⟩
   ·cases hv
   ·cases hv
    have hl0:l=[]:=List.length_eq_zero_iff.1 (by omega)
    have e3:=Lib.run_unsafeSliceData_zero (P:=P) w ts ty e hp ⟨g,o,none⟩ l.length (T,cur.size) (by simp [World.shape?,hg])
    obtain ⟨fr',hd⟩:=dt_ex fr dst (.pointer (some ⟨w.heap.size,0,none⟩))
    refine op_v (v:=.pointer (some ⟨w.heap.size,0,none⟩)) (w':=w.alloc (.view ⟨g,o,none⟩ e)) ?_ hd (h (w.alloc (.view ⟨g,o,none⟩ e)) _ (fun hne=>absurd hl0 hne) (hS.grow ⟨rfl,rfl,rfl,by simp,fun k hk _=>by first | exact heap_alloc_old w _ k hk | exact heap_alloc_old w _ hk⟩) fr' hd)
    simp [execOp,resolve,invoke,builtin,e1,e3]
  ·obtain ⟨fr',hd⟩:=dt_ex fr dst (.pointer (some a0))
   refine op_v (v:=.pointer (some a0)) (w':=w) ?_ hd (h w (some a0) (fun _=>rfl) hS fr' hd)
   simp [execOp,resolve,invoke,builtin,e1,Lib.run_unsafeSliceData_row _ _ _ _ _ _ hc]
end
end Go.Xt
namespace Go.Xt
open Go.Wk Go.RowKit
section
variable {P:Program} {Q Q':Exit→Act→World→Prop} {fr fr':List Value} {ds:List Deferred} {w:World} {ops:Array Oper} {y:Code} {id:Nat} {l:List Oper}
theorem nw (h:CW P y Q' fr ds w):WL P ops (Exit.then (Nx P y Q') Q) [] fr ds w:=wnil (xn h)
theorem nz (h:WL P l.toArray (Exit.then (Nx P y Q) Q) l fr ds w):CW P (.seq (.region id l.toArray false) y) Q fr ds w:=cseq (creg h)
theorem nx (h:WL P l.toArray (Exit.then (Nx P y Q') Q') l fr ds w):WL P ops (Exit.then (Nx P (.seq (.region id l.toArray false) y) Q') Q) [] fr ds w:=wnil (xn (cseq (creg h)))
theorem ny {x:Code} (h:CW P x (Exit.then (Nx P y Q') Q') fr ds w):WL P ops (Exit.then (Nx P (.seq x y) Q') Q) [] fr ds w:=wnil (xn (cseq h))
variable {R R':List Nat} {dst:Tmp} {op:Op} {ty:TypeId} {pos:String} {after:Array Edge} {v:Value} {Ns:List Mon} {j d:Nat} {b b':Bool}
theorem fp (i:Nat) (S:List Nat) (he:(decide R.Nodup && enabled ops R i && waits ops R S i && apartF ops S R i && S.contains i,R.erase i,ops[i]?)=(true,R',some ⟨some dst,op,ty,pos,after,none⟩)) (hv:PU P ⟨some dst,op,ty,pos,after,none⟩ fr v) (hp:Pt fr dst v fr') (h:SF P ops Q Ns R' fr' ds w) (hQ:Blind Q:=by first | exact blind_of fun _ _ _ h=>h | exact blind_of fun _ _ _ h=>h.2 | exact blind_of fun _ _ _ h=>h.2.2):SF P ops Q Ns R fr ds w:=sf_pu S hQ (congrArg (·.1) he) (congrArg (·.2.1) he) (congrArg (·.2.2) he) hv hp h
theorem fr_ (i:Nat) (S:List Nat) (he:(decide R.Nodup && enabled ops R i && waits ops R S i && apartF ops S R i && S.contains i,R.erase i,ops[i]?)=(true,R',some ⟨some dst,op,ty,pos,after,none⟩)) (hv:LU P ⟨some dst,op,ty,pos,after,none⟩ fr w v) (hp:Pt fr dst v fr') (h:SF P ops Q ((S,fun w'=>LU P ⟨some dst,op,ty,pos,after,none⟩ fr w' v)::Ns) R' fr' ds w) (hQ:Blind Q:=by first | exact blind_of fun _ _ _ h=>h | exact blind_of fun _ _ _ h=>h.2 | exact blind_of fun _ _ _ h=>h.2.2):SF P ops Q Ns R fr ds w:=sf_rd S hQ (congrArg (·.1) he) (congrArg (·.2.1) he) (congrArg (·.2.2) he) hv hp h
end
class Lki (l:List Value) (n:Nat) (v:outParam Value):Prop where out:Lk l n v
instance {v:Value} {l:List Value}:Lki (v::l) 0 v:=⟨rfl⟩
instance {a v:Value} {l:List Value} {n:Nat} [h:Lki l n v]:Lki (a::l) (n+1) v:=⟨h.out⟩
instance (priority:=2000) {c0 c1 c2 c3 c4 c5 c6 c7 c8 c9 v:Value} {l:List Value} {n:Nat} [h:Lki l n v]:Lki (c0::c1::c2::c3::c4::c5::c6::c7::c8::c9::l) (n+10) v:=⟨h.out⟩
class Pti (l:List Value) (n:Nat) (v:Value) (l':outParam (List Value)):Prop where out:Pt l n v l'
instance {a v:Value} {l:List Value}:Pti (a::l) 0 v (v::l):=⟨rfl⟩
instance {a v:Value} {l l':List Value} {n:Nat} [h:Pti l n v l']:Pti (a::l) (n+1) v (a::l'):=⟨congrArg (a::·) h.out⟩
instance (priority:=2000) {c0 c1 c2 c3 c4 c5 c6 c7 c8 c9 v:Value} {l l':List Value} {n:Nat} [h:Pti l n v l']:Pti (c0::c1::c2::c3::c4::c5::c6::c7::c8::c9::l) (n+10) v (c0::c1::c2::c3::c4::c5::c6::c7::c8::c9::l'):=⟨congrArg (c0::c1::c2::c3::c4::c5::c6::c7::c8::c9::·) h.out⟩
class Evi (fr:List Value) (x:Operand) (v:outParam Value):Prop where out:Ev fr x v
instance {fr:List Value} {n:Nat} {v:Value} [h:Lki fr n v]:Evi fr (.tmp n) v:=⟨et h.out⟩
instance {fr:List Value} {v:Value}:Evi fr (.const v) v:=⟨ec⟩
class Pui (P:Program) (op:Op) (fr:List Value) (v:outParam Value):Prop where out:∀ dst ty pos after g,PU P (Oper.mk dst op ty pos after g) fr v
section
variable {P:Program} {fr:List Value} {x y c:Operand} {v:Value} {t t':TypeId} {k:IntKind} {a b:Int}
instance [h:Evi fr x v]:Pui P (.move x) fr v:=⟨fun _ _ _ _ _=>u_move h.out⟩
instance [h:Evi fr x v]:Pui P (.assign x) fr v:=⟨fun _ _ _ _ _=>u_assign h.out⟩
instance {a:Addr} [h:Evi fr x (.pointer (some a))]:Pui P (.nilCheck x) fr (.pointer (some a)):=⟨fun _ _ _ _ _=>u_nilck h.out⟩
instance [hx:Evi fr x (.int k a)] [hy:Evi fr y (.int k b)]:Pui P (.binOp .eql t x y t') fr (.bool (decide (a=b))):=⟨fun _ _ _ _ _=>u_eqi hx.out hy.out⟩
instance [hx:Evi fr x (.int k a)] [hy:Evi fr y (.int k b)]:Pui P (.binOp .neq t x y t') fr (.bool (decide (a≠b))):=⟨fun _ _ _ _ _=>u_nei hx.out hy.out⟩
instance [hx:Evi fr x (.int k a)] [hy:Evi fr y (.int k b)]:Pui P (.binOp .lss t x y t') fr (.bool (decide (a<b))):=⟨fun _ _ _ _ _=>u_lss hx.out hy.out⟩
instance [hx:Evi fr x (.int k a)] [hy:Evi fr y (.int k b)]:Pui P (.binOp .leq t x y t') fr (.bool (decide (a≤b))):=⟨fun _ _ _ _ _=>u_leq hx.out hy.out⟩
instance [hx:Evi fr x (.int k a)] [hy:Evi fr y (.int k b)]:Pui P (.binOp .gtr t x y t') fr (.bool (decide (b<a))):=⟨fun _ _ _ _ _=>u_gtr hx.out hy.out⟩
instance [hx:Evi fr x (.int k a)] [hy:Evi fr y (.int k b)]:Pui P (.binOp .geq t x y t') fr (.bool (decide (b≤a))):=⟨fun _ _ _ _ _=>u_geq hx.out hy.out⟩
end
section
variable {P:Program} {Q:Exit→Act→World→Prop} {fr fr':List Value} {ds:List Deferred} {w:World} {ops:Array Oper} {rest:List Oper} {d:Tmp} {op:Op} {ty:TypeId} {pos:String} {after:Array Edge} {v:Value}
theorem st [hu:Pui P op fr v] [hp:Pti fr d v fr'] (h:WL P ops Q rest fr' ds w):WL P ops Q (⟨some d,op,ty,pos,after,none⟩::rest) fr ds w:=wl (su (hu.out _ _ _ _ _) (dt hp.out) h)
end
class Evsi (fr:List Value) (xs:List Operand) (vs:outParam (List Value)):Prop where out:Evs fr xs vs
instance {fr:List Value}:Evsi fr [] []:=⟨e0⟩
instance {fr:List Value} {x:Operand} {v:Value} {xs:List Operand} {vs:List Value} [h:Evi fr x v] [k:Evsi fr xs vs]:Evsi fr (x::xs) (v::vs):=⟨e1 h.out k.out⟩
section
variable {P:Program} {fr:List Value} {x y c:Operand} {v:Value} {t t' T:TypeId} {b:Nat} {o off i:Nat} {vs:List Value} {q:Bool}
instance [hF:FA P T i off] [h:Evi fr x (.pointer (some ⟨b,o,none⟩))]:Pui P (.fieldAddr T x i) fr (.pointer (some ⟨b,o+off,none⟩)):=⟨fun _ _ _ _ _=>u_fa hF h.out rfl⟩
instance [hc:Evi fr c (.bool true)] [h:Evi fr x v]:Pui P (.pick c x y) fr v:=⟨fun _ _ _ _ _=>u_pickt hc.out h.out⟩
instance [hc:Evi fr c (.bool false)] [h:Evi fr y v]:Pui P (.pick c x y) fr v:=⟨fun _ _ _ _ _=>u_pickf hc.out h.out⟩
instance [h:Evi fr x (.bool q)]:Pui P (.unOp .not t x) fr (.bool (!q)):=⟨fun _ _ _ _ _=>u_not h.out⟩
instance [h:Evi fr x (.tuple ⟨vs⟩)] [k:Lki vs i v]:Pui P (.extract x i) fr v:=⟨fun _ _ _ _ _=>u_extr h.out k.out⟩
end
section
variable {P:Program} {Q:Exit→Act→World→Prop} {fr fr':List Value} {ds:List Deferred} {w:World} {ops:Array Oper} {rest:List Oper} {d:Tmp} {op:Op} {ty:TypeId} {pos:String} {after:Array Edge} {v:Value} {j e:Nat} {b b':Bool}
theorem sy [hu:Pui P op fr v] [hp:Pti fr d v fr'] (hj:(ops[j]?).bind (·.dst)=some e) [hl:Lki fr e (.bool b)] (h:WL P ops Q rest fr' ds w):WL P ops Q (⟨some d,op,ty,pos,after,some (j,b)⟩::rest) fr ds w:=wy hj hl.out (su (hu.out _ _ _ _ _) (dt hp.out) h)
theorem sn [hp:Pti fr d undef fr'] (hj:(ops[j]?).bind (·.dst)=some e) [hl:Lki fr e (.bool b')] (hb:(b' == b)=false) (h:WL P ops Q rest fr' ds w):WL P ops Q (⟨some d,op,ty,pos,after,some (j,b)⟩::rest) fr ds w:=wn hj hl.out hb (dt hp.out) h
theorem ld {T:TypeId} {zc:List Value} {n m o q:Nat} {x:Operand} [hT:TI P T false zc n m] (hc:w.cell? ⟨q,o,none⟩=some v) [hx:Evi fr x (.pointer (some ⟨q,o,none⟩))] [hp:Pti fr d v fr'] (h:WL P ops Q rest fr' ds w):WL P ops Q (⟨some d,.load T x,ty,pos,after,none⟩::rest) fr ds w:=wl (s_load hT hx.out hc (dt hp.out) h)
theorem lds {T:TypeId} {zc cs:List Value} {n m o q:Nat} {x:Operand} [hT:TI P T true zc n m] (hc:CellsAt w q o cs) (hn:cs.length=n) [hx:Evi fr x (.pointer (some ⟨q,o,none⟩))] [hp:Pti fr d (.agg ⟨cs⟩) fr'] (h:WL P ops Q rest fr' ds w):WL P ops Q (⟨some d,.load T x,ty,pos,after,none⟩::rest) fr ds w:=wl (s_loads hT hx.out hc hn (dt hp.out) h)
theorem ca {dst:Option Tmp} {xs:List Operand} {tys:Array TypeId} {k:FuncId} {vs:List Value} {R:Value→World→Prop} [hk:IsFn P k] [hs:Evsi fr xs vs] (hc:CallsV P k vs w R) (h:∀ v w',R v w'→Put fr dst v fun fr'=>WL P ops Q rest fr' ds w') :
  WL P ops Q (⟨dst,.call { callee:=.value (.func k),args:=⟨xs⟩,argTypes:=tys },ty,pos,after,none⟩::rest) fr ds w:=wl (s_callv hk ef hs.out hc h)
theorem cdw {id:Nat} {l:List Oper} {μ:M} {w0:World} {rs:List Res} (hS:Sq μ w0 w rs) (h:∀ w',Sq μ w0 w' rs→SC P l.toArray Q (List.range l.length) fr ds w') (hm:P.follows .mixedOrders=true:=by kernel_rfl) (hlow:(List.range l.toArray.size).all (fun i=>(deps l.toArray i).all fun j=>decide (j<i))=true:=by rfl):CW P (.region id l.toArray true) Q fr ds w :=
 cdraw hm hlow fun w' h1 h2 h3 h4=>h w' (hS.drew h1 h2 h3 h4)
theorem po {v:Value} {K:List Value→Prop} [hp:Pti fr d v fr'] (h:K fr'):Put fr (some d) v K:=pu (dt hp.out) h
theorem fpi {Ns:List Mon} {R R':List Nat} (i:Nat) (S:List Nat) (he:(decide R.Nodup && enabled ops R i && waits ops R S i && apartF ops S R i && S.contains i,R.erase i,ops[i]?)=(true,R',some ⟨some d,op,ty,pos,after,none⟩)) [hv:Pui P op fr v] [hp:Pti fr d v fr'] (h:SF P ops Q Ns R' fr' ds w) (hQ:Blind Q:=by first | exact blind_of fun _ _ _ h=>h | exact blind_of fun _ _ _ h=>h.2 | exact blind_of fun _ _ _ h=>h.2.2):SF P ops Q Ns R fr ds w :=
 fp i S he (hv.out _ _ _ _ _) hp.out h hQ
end
section
variable {rs rs':List Res} {a1 a2 a3 a4 a5 a6 a7 a8 a9 a10 a11 a12 r:Res}
theorem Y1:Bg (a1::r::rs) 1 (r::a1::rs):=.s (Bg.z)
theorem Y2:Bg (a1::a2::r::rs) 2 (r::a1::a2::rs):=.s (.s (Bg.z))
theorem Y3:Bg (a1::a2::a3::r::rs) 3 (r::a1::a2::a3::rs):=.s (.s (.s (Bg.z)))
theorem Y4:Bg (a1::a2::a3::a4::r::rs) 4 (r::a1::a2::a3::a4::rs):=.s (.s (.s (.s (Bg.z))))
end
section
variable {P:Program} {Q:Exit→Act→World→Prop} {fr frt frf:List Value} {ds:List Deferred} {w:World} {ops:Array Oper} {l:List Oper} {R:List Nat} {Ns:List Mon} {c:Operand} {x y:Code} {p:Prop} [Decidable p] {b:Bool} {d:Nat} {α:Type} {A B:Option α} {r:α}
theorem zCd (h:(if p then A else B)=some r) [hc:Evi fr c (.bool (decide p))] (h1:p→A=some r→CW P x Q fr ds w) (h2:¬ p→B=some r→CW P y Q fr ds w):CW P (.cond c x y) Q fr ds w:=cifd hc.out (fun q=>h1 q (iT q h)) (fun q=>h2 q (iF q h))
theorem zCb (h:(if b=true then A else B)=some r) [hc:Evi fr c (.bool b)] (h1:b=true→A=some r→CW P x Q fr ds w) (h2:¬ b=true→B=some r→CW P y Q fr ds w):CW P (.cond c x y) Q fr ds w:=cifb hc.out (fun q=>h1 q (iT q h)) (fun q=>h2 q (iF q h))
theorem zCe (h:(if b=true then A else B)=some r) [hc:Evi fr c (.bool (!b))] (h1:¬ b=true→B=some r→CW P x Q fr ds w) (h2:b=true→A=some r→CW P y Q fr ds w):CW P (.cond c x y) Q fr ds w:=cifnb hc.out (fun q=>h1 q (iF q h)) (fun q=>h2 q (iT q h))
theorem zWd (d:Nat) (h:(if p then A else B)=some r) [hl:Lki fr d (.bool (decide p))] [ht:Pti fr d (.bool true) frt] [hf:Pti fr d (.bool false) frf] (h1:p→A=some r→WL P ops Q l frt ds w) (h2:¬ p→B=some r→WL P ops Q l frf ds w):WL P ops Q l fr ds w:=wspd hl.out ht.out hf.out (fun q=>h1 q (iT q h)) (fun q=>h2 q (iF q h))
theorem zWb (d:Nat) (h:(if b=true then A else B)=some r) [hl:Lki fr d (.bool b)] [ht:Pti fr d (.bool true) frt] [hf:Pti fr d (.bool false) frf] (h1:b=true→A=some r→WL P ops Q l frt ds w) (h2:¬ b=true→B=some r→WL P ops Q l frf ds w):WL P ops Q l fr ds w:=wspb hl.out ht.out hf.out (fun q=>h1 q (iT q h)) (fun q=>h2 q (iF q h))
theorem zWe (d:Nat) (h:(if b=true then A else B)=some r) [hl:Lki fr d (.bool (!b))] [ht:Pti fr d (.bool true) frt] [hf:Pti fr d (.bool false) frf] (h1:¬ b=true→B=some r→WL P ops Q l frt ds w) (h2:b=true→A=some r→WL P ops Q l frf ds w):WL P ops Q l fr ds w:=wspnb hl.out ht.out hf.out (fun q=>h1 q (iF q h)) (fun q=>h2 q (iT q h))
end
abbrev u1 (l:List Value):List Value:=undef::l
abbrev u2 (l:List Value):List Value:=undef::undef::l
abbrev u5 (l:List Value):List Value:=undef::undef::undef::undef::undef::l
abbrev u10 (l:List Value):List Value:=undef::undef::undef::undef::undef::undef::undef::undef::undef::undef::l
abbrev u20 (l:List Value):List Value:=undef::undef::undef::undef::undef::undef::undef::undef::undef::undef::undef::undef::undef::undef::undef::undef::undef::undef::undef::undef::l
abbrev u50 (l:List Value):List Value:=undef::undef::undef::undef::undef::undef::undef::undef::undef::undef::undef::undef::undef::undef::undef::undef::undef::undef::undef::undef::undef::undef::undef::undef::undef::undef::undef::undef::undef::undef::undef::undef::undef::undef::undef::undef::undef::undef::undef::undef::undef::undef::undef::undef::undef::undef::undef::undef::undef::undef::l
end Go.Xt
namespace Go.Xt
theorem oI {α : Type} {a b : α} (h : some a = some b) : a = b := Option.some.inj h
abbrev rg : Nat → Nat → List Nat := fun a b => List.range' a b
end Go.Xt
