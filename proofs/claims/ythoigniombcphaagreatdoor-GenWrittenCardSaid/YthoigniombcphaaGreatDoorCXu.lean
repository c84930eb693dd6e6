/- Texts of Xu. -/
import Derived.Test.YthoigniombcphaaGreatDoorCXt
import Derived.Laws.IdiomCopy
import Derived.Shelf.Strconv.ParseIntPublic10
import Derived.Lib.IndexMore
import Derived.Sort.Row
import Derived.Lib.AppendStr
import Derived.Lib.ItoaNum
import Derived.Lib.UnsafeStr
set_option linter.unusedSimpArgs false
set_option linter.unusedVariables false
set_option linter.unusedSectionVars false
namespace Go.Dc
open Go.bc Go.RowKit
theorem pa.split {α:Type} [cb α] {μ:M}:∀ {l:List α} {cells:List Value} {i:Nat} {x:α},pa μ cells l→l[i]?=some x →
  ∃ b cs mg,cells=b++(cs++mg)∧b.length=i*cb.sz α∧cb.cs μ cs x∧∀ (na:M) (a:List Value) (d:α),ga μ na→cb.cs na a d→pa na (b++(a++mg)) (l.set i d)
 | [],cells,i,x,h,c=>by simp at c
 | y::l,cells,i,x,h,c=>by
  rw [pa] at h
  obtain ⟨cs,t,rfl,f,j⟩:=h
  cases i with
  | zero =>
   simp at c
   subst c
   exact ⟨[],cs,t,rfl,by simp,f,fun na a d qa g=>⟨a,t,rfl,g,j.up qa⟩⟩
  | succ i =>
   simp at c
   obtain ⟨b,k,mg,rfl,e,m,st⟩:=pa.split j c
   exact ⟨cs++b,k,mg,by simp,by simp [e,cb.th f,Nat.add_mul]; omega,m,fun na a d qa g=>⟨cs,b++(a++mg),by simp,cb.up qa f,st na a d qa g⟩⟩
theorem _root_.Go.bc.Row.nq {α:Type} [cb α] {w:World} {T:TypeId} {n:Nat} {μ:M} {v:Value} {cells:List Value} {l:List α} {i:Int} {x:α} (h:Row w v T (cb.sz α) n cells) (f:pa μ cells l) (A:l.length=n) (g:at_ l i=some x) :
  ∃ b o a cs mg,cells=a++(cs++mg)∧Du v (cb.sz α) i b o∧(∀ w T d,Row w v T (cb.sz α) n (a++(d++mg))→d.length=cb.sz α→gj w b o d)∧cb.cs μ cs x∧a.length=i.toNat*cb.sz α ∧
   (∀ (na:M) (d:List Value) (k:α),ga μ na→cb.cs na d k→pa na (a++(d++mg)) (l.set i.toNat k))∧pa μ (a++(cs++mg)) l:=by
 obtain ⟨r,B,s⟩:=au g
 obtain ⟨b,o,c,rfl,C⟩:=h.Zt (by omega)
 obtain ⟨a,cs,mg,rfl,e,m,st⟩:=f.split s
 refine ⟨b,o+i.toNat*cb.sz α,a,cs,mg,rfl,⟨o,_,_,rfl,r,by omega,rfl⟩,?_,m,e,st,f⟩
 intro D E d t qa j u p
 obtain ⟨re,F,tc,q,y⟩:=t.Zt (by omega)
 simp at q
 obtain ⟨⟨rfl,rfl⟩,rfl⟩:=q
 have z:j<d.length:=(List.getElem?_eq_some_iff.1 p).1
 have:=y (a.length+j) u (by rw [List.getElem?_append_right (by omega),show a.length+j - a.length=j by omega,List.getElem?_append_left z]; exact p)
 rw [e,← Nat.add_assoc] at this
 exact this
theorem fx {a cs b mg vs:List Value} {i off sz:Nat} (pl:a.length=i*sz) (h:cs.take off++vs++cs.drop (off+vs.length)=b) (qa:off+vs.length≤cs.length) :
  (a++(cs++mg)).take (i*sz+off)++vs++(a++(cs++mg)).drop (i*sz+off+vs.length)=a++(b++mg):=by
 subst h
 rw [← pl,Nat.add_assoc,List.take_append,List.drop_append]
 simp [List.take_append_of_le_length (show off≤cs.length by omega),List.drop_append_of_le_length qa,List.take_of_length_le (show a.length≤a.length+off by omega),List.drop_of_length_le (show a.length≤a.length+(off+vs.length) by omega)]
section
variable {P:Program} {Q:Exit→Act→World→Prop} {K:List Value→List Deferred→World→Prop} {fr Ca:List Value} {ds:List Deferred} {w:World}
variable {dst:Option Tmp} {ty:TypeId} {pos:String} {after:Array Edge} {g:Option (Nat×Bool)}
variable {J:World} {rs sc:List Wb} {μ na:M}
variable {T:TypeId}
theorem je.two {es:List MapEntry} {c:Nat} {k0 k1:List UInt8} {x0 x1:Int} (h:je μ es c [(k0,x0),(k1,x1)]) :
  ∃ u j,es=[⟨S k0,.int .i64 x0,u⟩,⟨S k1,.int .i64 x1,j⟩]∧u<j∧j<c:=by
 obtain ⟨e,l,m⟩:=h
 match es,e,l,m with
 | [],e,_,_=>simp [Pe] at e
 | [a],e,_,_ =>
  rw [Pe] at e
  obtain ⟨k,x,t,g,-,-,f⟩:=e
  simp [Pe] at f g
  simp [f] at g
 | [a,b],e,l,m =>
  rw [Pe] at e
  obtain ⟨k,x,t,g,n,o,f⟩:=e
  rw [Pe] at f
  obtain ⟨w,y,ld,p,q,r,s⟩:=f
  subst p
  simp only [List.cons.injEq,Prod.mk.injEq] at g
  obtain ⟨⟨rfl,rfl⟩,⟨rfl,rfl⟩,-⟩:=g
  obtain ⟨z,A,v⟩:=a
  obtain ⟨B,bv,i⟩:=b
  have o:A=.int .i64 x0:=o
  have r:bv=.int .i64 x1:=r
  have n:z=S k0:=n
  have q:B=S k1:=q
  subst n q o r
  have C:v<i:=List.rel_of_pairwise_cons m (List.mem_singleton.2 rfl)
  have D:i<c:=l ⟨S k1,.int .i64 x1,i⟩ (by simp)
  exact ⟨v,i,rfl,C,D⟩
 | a::b::d::es,e,_,_ =>
  rw [Pe] at e
  obtain ⟨k,x,t,g,-,-,f⟩:=e
  rw [Pe] at f
  obtain ⟨w,y,ld,p,-,-,s⟩:=f
  rw [Pe] at s
  obtain ⟨F,G,H,E,-,-,-⟩:=s
  subst E p
  simp at g
theorem Vr (w:World) (b:Nat) (o:Obj) (a:b<w.heap.size):xh (fun k=>k≠b) w { w with heap:=w.heap.setIfInBounds b o }∧({ w with heap:=w.heap.setIfInBounds b o }:World).heap[b]?=some o :=
 ⟨⟨rfl,rfl,rfl,by simp,fun j _ c=>by simp [Array.getElem?_setIfInBounds,Ne.symm c]⟩,by simp [a]⟩
theorem RF {x:Operand} {b m c i k a d:Nat} {a0 v0 xa v1:Value} (o:wb fr x (.pointer (some ⟨b,0,none⟩))) (f:ka μ J w rs) (j:hc rs i (.aj b m c [] c)) (hm:hc rs k (.map m [⟨a0,v0,a⟩,⟨xa,v1,d⟩] c)) (B:a<d) (p:d<c)
  (y:∀ w' sc,Ac rs i (.aj b m c [a] c) sc→ka μ J w' sc→Kg fr dst (.tuple ⟨[.bool true,a0,v0]⟩) fun Ca=>K Ca ds w')
  (z:∀ w' sc,Ac rs i (.aj b m c [d] c) sc→ka μ J w' sc→Kg fr dst (.tuple ⟨[.bool true,xa,v1]⟩) fun Ca=>K Ca ds w') :
  Zd P (Oper.mk dst (.next x false) ty pos after g) fr ds w K Q:=by
 have h:w.heap[b]?=some (.mapIter (some m) c ⟨[]⟩ c):=f.get j
 have q:w.heap[m]?=some (.map ⟨[⟨a0,v0,a⟩,⟨xa,v1,d⟩]⟩ c):=f.get hm
 have r:b<w.heap.size:=(Array.getElem?_eq_some_iff.1 h).1
 have s:w.drew.heap[b]?=some (.mapIter (some m) c ⟨[]⟩ c):=h
 have t:a<c:=by omega
 have u:¬ a ≥ c:=by omega
 have v:¬ d ≥ c:=by omega
 by_cases ya:(w.tape w.drawn (.mapNext 2)) % 2=0
 ·obtain ⟨l,n⟩:=Vr w.drew b (.mapIter (some m) c ⟨[a]⟩ c) r
  obtain ⟨Ca,e⟩:=jh fr dst (.tuple ⟨[.bool true,a0,v0]⟩)
  refine ig (w':={ w.drew with heap:=w.drew.heap.setIfInBounds b (.mapIter (some m) c ⟨[a]⟩ c) }) ?_ e (y _ _ rfl ((f.drew (w':=w.drew) rfl rfl rfl rfl).put (b:=b) j rfl rfl rfl n l) Ca e)
  simp [execOp,o ds,Instr.next,getObj,setObj,Sem.run,h,q,Result.andThen,t,p,u,v,choose,Question.forced,Question.cut,ya,s]
 ·have A:(w.tape w.drawn (.mapNext 2)) % 2=1:=by omega
  obtain ⟨l,n⟩:=Vr w.drew b (.mapIter (some m) c ⟨[d]⟩ c) r
  obtain ⟨Ca,e⟩:=jh fr dst (.tuple ⟨[.bool true,xa,v1]⟩)
  refine ig (w':={ w.drew with heap:=w.drew.heap.setIfInBounds b (.mapIter (some m) c ⟨[d]⟩ c) }) ?_ e (z _ _ rfl ((f.drew (w':=w.drew) rfl rfl rfl rfl).put (b:=b) j rfl rfl rfl n l) Ca e)
  simp [execOp,o ds,Instr.next,getObj,setObj,Sem.run,h,q,Result.andThen,t,p,u,v,choose,Question.forced,Question.cut,A,s]
theorem SF {x:Operand} {b m c f k a d:Nat} {a0 v0 xa v1:Value} (o:wb fr x (.pointer (some ⟨b,0,none⟩))) (e:ka μ J w rs) (j:hc rs f (.aj b m c [a] c)) (hm:hc rs k (.map m [⟨a0,v0,a⟩,⟨xa,v1,d⟩] c)) (C:a<d) (p:d<c)
  (q:∀ w' sc,Ac rs f (.aj b m c [a,d] c) sc→ka μ J w' sc→Kg fr dst (.tuple ⟨[.bool true,xa,v1]⟩) fun Ca=>K Ca ds w') :
  Zd P (Oper.mk dst (.next x false) ty pos after g) fr ds w K Q:=by
 have l:w.heap[b]?=some (.mapIter (some m) c ⟨[a]⟩ c):=e.get j
 have r:w.heap[m]?=some (.map ⟨[⟨a0,v0,a⟩,⟨xa,v1,d⟩]⟩ c):=e.get hm
 have s:b<w.heap.size:=(Array.getElem?_eq_some_iff.1 l).1
 have t:¬ a ≥ c:=by omega
 have u:¬ d ≥ c:=by omega
 have v:¬ ∀ (i:Nat) (x:i<2),c≤([⟨a0,v0,a⟩,⟨xa,v1,d⟩]:List MapEntry)[i].born:=fun h=>by have:=h 0 (by decide); simp at this; omega
 have y:¬ d=a:=by omega
 have z:¬ a=d:=by omega
 obtain ⟨A,B⟩:=Vr w b (.mapIter (some m) c ⟨[a,d]⟩ c) s
 obtain ⟨Ca,n⟩:=jh fr dst (.tuple ⟨[.bool true,xa,v1]⟩)
 refine ig (w':={ w with heap:=w.heap.setIfInBounds b (.mapIter (some m) c ⟨[a,d]⟩ c) }) ?_ n (q _ _ rfl (e.put (b:=b) j rfl rfl rfl B A) Ca n)
 simp [execOp,o ds,Instr.next,getObj,setObj,Sem.run,l,r,Result.andThen,p,t,u,y,z,v,choose,Question.forced]
theorem eF {x:Operand} {b m c f k d a:Nat} {a0 v0 xa v1:Value} (o:wb fr x (.pointer (some ⟨b,0,none⟩))) (e:ka μ J w rs) (j:hc rs f (.aj b m c [a] c)) (hm:hc rs k (.map m [⟨a0,v0,d⟩,⟨xa,v1,a⟩] c)) (C:d<a) (D:a<c)
  (p:∀ w' sc,Ac rs f (.aj b m c [a,d] c) sc→ka μ J w' sc→Kg fr dst (.tuple ⟨[.bool true,a0,v0]⟩) fun Ca=>K Ca ds w') :
  Zd P (Oper.mk dst (.next x false) ty pos after g) fr ds w K Q:=by
 have l:w.heap[b]?=some (.mapIter (some m) c ⟨[a]⟩ c):=e.get j
 have q:w.heap[m]?=some (.map ⟨[⟨a0,v0,d⟩,⟨xa,v1,a⟩]⟩ c):=e.get hm
 have r:b<w.heap.size:=(Array.getElem?_eq_some_iff.1 l).1
 have s:d<c:=by omega
 have t:¬ d ≥ c:=by omega
 have u:¬ a ≥ c:=by omega
 have v:¬ ∀ (i:Nat) (x:i<2),c≤([⟨a0,v0,d⟩,⟨xa,v1,a⟩]:List MapEntry)[i].born:=fun h=>by have:=h 0 (by decide); simp at this; omega
 have y:¬ a=d:=by omega
 have z:¬ d=a:=by omega
 obtain ⟨A,B⟩:=Vr w b (.mapIter (some m) c ⟨[a,d]⟩ c) r
 obtain ⟨Ca,n⟩:=jh fr dst (.tuple ⟨[.bool true,a0,v0]⟩)
 refine ig (w':={ w with heap:=w.heap.setIfInBounds b (.mapIter (some m) c ⟨[a,d]⟩ c) }) ?_ n (p _ _ rfl (e.put (b:=b) j rfl rfl rfl B A) Ca n)
 simp [execOp,o ds,Instr.next,getObj,setObj,Sem.run,l,q,Result.andThen,s,t,u,y,z,v,choose,Question.forced]
theorem eB {x:Operand} {b m c f k d a p q:Nat} {a0 v0 xa v1:Value} (j:wb fr x (.pointer (some ⟨b,0,none⟩))) (e:ka μ J w rs) (l:hc rs f (.aj b m c [p,q] c)) (hm:hc rs k (.map m [⟨a0,v0,d⟩,⟨xa,v1,a⟩] c)) (z:d<a) (A:a<c) (n:p=d∧q=a∨p=a∧q=d)
  (ya:hf fr dst (.tuple ⟨[.bool false]⟩) Ca) (h:K Ca ds w) :
  Zd P (Oper.mk dst (.next x false) ty pos after g) fr ds w K Q:=by
 have o:w.heap[b]?=some (.mapIter (some m) c ⟨[p,q]⟩ c):=e.get l
 have r:w.heap[m]?=some (.map ⟨[⟨a0,v0,d⟩,⟨xa,v1,a⟩]⟩ c):=e.get hm
 have s:¬ d ≥ c:=by omega
 have t:¬ a ≥ c:=by omega
 have u:¬ ∀ (i:Nat) (x:i<2),c≤([⟨a0,v0,d⟩,⟨xa,v1,a⟩]:List MapEntry)[i].born:=fun h=>by have:=h 0 (by decide); simp at this; omega
 have v:¬ a=d:=by omega
 have y:¬ d=a:=by omega
 refine ig (w':=w) ?_ ya h
 rcases n with ⟨rfl,rfl⟩ | ⟨rfl,rfl⟩ <;> simp [execOp,j ds,Instr.next,getObj,setObj,Sem.run,o,r,Result.andThen,s,t,v,y,u,choose,Question.forced]
theorem Sv {x:Operand} {b m c i k a d:Nat} {a0 v0 xa v1:Value} {seen:List Nat} {e:MapEntry} (j:wb fr x (.pointer (some ⟨b,0,none⟩))) (f:ka μ J w rs) (l:hc rs i (.aj b m c seen c)) (hm:hc rs k (.map m [⟨a0,v0,a⟩,⟨xa,v1,d⟩] c)) (t:a<d)
  (n:seen.getLast?=some e.born) (he:e=⟨a0,v0,a⟩∨e=⟨xa,v1,d⟩) (ya:hf fr dst (.tuple ⟨[e.key,e.val]⟩) Ca) (h:K Ca ds w) :
  Zd P (Oper.mk dst (.entry x) ty pos after g) fr ds w K Q:=by
 have o:w.heap[b]?=some (.mapIter (some m) c ⟨seen⟩ c):=f.get l
 have p:w.heap[m]?=some (.map ⟨[⟨a0,v0,a⟩,⟨xa,v1,d⟩]⟩ c):=f.get hm
 have q:¬ d=a:=by omega
 have r:¬ a=d:=by omega
 have s:(⟨seen⟩:Array Nat).back?=some e.born:=by rw [← n]; simp [Array.back?,List.getLast?_eq_getElem?]
 refine ig (w':=w) ?_ ya h
 rcases he with rfl | rfl <;> simp [execOp,j ds,Instr.entry,getObj,Sem.run,o,p,Result.andThen,s,q,r]
end
end Go.Dc
namespace Go.Dc
open Go.bc Go.RowKit
section
variable {P:Program} {Q:Exit→Act→World→Prop} {K:List Value→List Deferred→World→Prop} {fr Ca:List Value} {ds:List Deferred} {w:World}
variable {dst:Option Tmp} {ty:TypeId} {pos:String} {after:Array Edge} {g:Option (Nat×Bool)}
structure fB (P:Program) (f:FuncId) (args:List Value) (w:World) (R:Value→World→Prop):Prop where
 out:CallsD P f ⟨args⟩ .returning w fun e a w'=>a=.returning∧okV R e w'
theorem dC {fn:Func} {R a:Value→World→Prop} {k:FuncId} {cap vs:List Value} (b:yc P k) (d:fB P k (vs++cap) w a) (h:∀ v w',a v w'→zp P fn R .ret (F fr ds) w') :
  zp P fn R .ret (F fr (⟨.fn (.func k) ⟨cap⟩,⟨vs⟩⟩::ds)) w:=by
 refine ⟨by simp,.func k,⟨cap⟩,k,⟨vs++cap⟩,rfl,?_,?_⟩
 ·have:=b.out ⟨vs++cap⟩ w
  simp [invoke,this]
 ·refine d.out.mono fun e f w' he=>?_
  obtain ⟨rfl,he⟩:=he
  cases e with
  | returned v=>exact h v w' he
  | panicked c=>exact he.elim
  | outgrown=>exact he.elim
theorem DG {P:Program} {T:TypeId} {ms:Array (String×TypeId)} {v:Value} {b:Bool} (hu:P.underlying T=some (.interface ms)) (e:(v=.nilIface∧b=true)∨((∃ a c,v=.iface a c)∧b=false)):zq P 1 T v .nilIface b:=⟨fun d w ya=>by
 cases d with
 | zero=>omega
 | succ d=>rcases e with ⟨rfl,rfl⟩ | ⟨⟨a,c,rfl⟩,rfl⟩ <;> simp [Op.equalIn,run_underlying hu]⟩
theorem EG {x:Operand} {t ld:TypeId} {v:Value} {b:Bool} {ms:Array (String×TypeId)} (hu:P.underlying t=some (.interface ms)) (e:wb fr x v) (d:(v=.nilIface∧b=true)∨((∃ a c,v=.iface a c)∧b=false)) (f:hf fr dst (.bool b) Ca) (k:K Ca ds w) :
  Zd P (Oper.mk dst (.binOp .eql t x (.const .nilIface) ld) ty pos after g) fr ds w K Q:=by
 refine Ja ⟨fun ds w=>?_⟩ f k
 have h:=e ds
 have i:(F fr ds).eval (.const .nilIface)=.nilIface:=rfl
 have j:=(DG hu d).out Op.maxDepth w (by decide)
 rcases d with ⟨rfl,rfl⟩ | ⟨⟨a,c,rfl⟩,rfl⟩ <;> simp [execOp,h,i,eqGuard,binOp,Op.equal,j]
end
end Go.Dc
namespace Go.Dc
open Go.bc Go.RowKit
def gJ (agg:Bool) (cs:List Value):Value:=if agg then .agg ⟨cs⟩ else cs.headD undef
structure yw (P:Program) (I:M) (K:Nat) (e:List Value) {α:Type} [cb α] (agg:Bool) (f:α→Option Bool):Prop where
 oC:yc P K
 call:∀ {a:M} {J c:World} {rs:List Wb} {x:α} {b:Bool} {cs:List Value},ga I a→cb.cs a cs x→f x=some b→ka a J c rs→Sb P K ([gJ agg cs]++e) c (fun v w'=>∃ d,v=.bool b∧ga a d∧ka d J w' rs)
theorem yw.up {P:Program} {μ na:M} {K:Nat} {a:List Value} {α:Type} [cb α] {agg:Bool} {b:α→Option Bool} (h:yw P μ K a agg b) (l:ga μ na):yw P na K a agg b:=⟨h.oC,fun qa=>h.call (l.t qa)⟩
end Go.Dc
namespace Go.Dc
open Go.bc Go.RowKit
section
variable {P:Program} {Q:Exit→Act→World→Prop} {K:List Value→List Deferred→World→Prop} {fr Ca:List Value} {ds:List Deferred} {w w':World}
variable {dst:Option Tmp} {ty:TypeId} {pos:String} {after:Array Edge} {g:Option (Nat×Bool)}
variable {J:World} {rs sc:List Wb} {μ na:M}
variable {T:TypeId} {d:TypeDesc} {Gf:Bool} {vd:List Value} {n m:Nat}
theorem RH {t e:TypeId} (hu:P.underlying t=some (.pointer e)):zq P 1 t (.pointer none) (.pointer none) true:=⟨fun d w ya=>by
 cases d with
 | zero=>omega
 | succ d=>simp [Op.equalIn,run_underlying hu]⟩
theorem wE {x:Operand} {t ld e:TypeId} (hu:P.underlying t=some (.pointer e)) (a:wb fr x (.pointer none)):uf P (Oper.mk dst (.binOp .eql t x (.const (.pointer none)) ld) ty pos after g) fr (.bool true):=⟨fun ds w=>by
 have b:=a ds
 have c:(F fr ds).eval (.const (.pointer none))=.pointer none:=rfl
 have d:=(RH hu).out Op.maxDepth w (by decide)
 simp [execOp,b,c,eqGuard,binOp,Op.equal,d]⟩
theorem xE {x:Operand} {t ld e:TypeId} (hu:P.underlying t=some (.pointer e)) (a:wb fr x (.pointer none)) (b:hf fr dst (.bool true) Ca) (h:K Ca ds w):Zd P (Oper.mk dst (.binOp .eql t x (.const (.pointer none)) ld) ty pos after g) fr ds w K Q:=Ja (wE hu a) b h
end
end Go.Dc
namespace Go.Dc
open Go.bc Go.RowKit
instance:cb UInt8 where
 sz:=1
 pos:=by decide
 cs _ l x:=l=[.int .u8 x.toNat]
 th h:=by rw [h]; rfl
 up _ h:=h
 si h:=by rw [h]; rfl
def Mo (l:List UInt8):Option Int:=if l.length≤9223372036854775806 then (match Lib.parseIntB 64 l with | .ok v=>some v | _=>none) else none
def Ds (l sub:List UInt8):Option Bool:=if l.length<4294967281 then some (Lib.contains l sub) else none
end Go.Dc
namespace Go.Dc
open Go.bc Go.RowKit
section
variable {μ Mk:M} {J w w':World} {rs:List Wb} {T:TypeId}
theorem _root_.Go.bc.Row.shape {v:Value} {sz n:Nat} {xs:List Value} (h:Row w v T sz n xs):∃ a c,v=.slice a n c:=by
 rcases h.2 with ⟨rfl,rfl⟩ | ⟨g,o,cap,cur,rfl,-⟩
 ·exact ⟨_,_,rfl⟩
 ·exact ⟨_,_,rfl⟩
def ll {α:Type} (B:Nat) (l:List α) (xs:List α):Option (List α):=if l.length+xs.length≤B then some (l++xs) else none
theorem gB {α:Type} {B:Nat} {a b c:List α} (h:ll B a b=some c):c=a++b∧a.length+b.length≤B:=by
 unfold ll at h
 split at h
 ·rename_i k; exact ⟨(Option.some.inj h).symm,k⟩
 ·cases h
theorem pa.ll {α:Type} [cb α] {B:Nat} {cells news:List Value} {l xs Ia:List α} (h:pa μ cells l) (k:pa μ news xs) (g:ll B l xs=some Ia):pa μ (cells++news) Ia:=by
 obtain ⟨rfl,-⟩:=gB g
 exact pa.cat k h
end
section
variable {P:Program} {Q:Exit→Act→World→Prop} {K:List Value→List Deferred→World→Prop} {fr Ca:List Value} {ds:List Deferred} {w w':World}
variable {dst:Option Tmp} {ty:TypeId} {pos:String} {after:Array Edge} {g:Option (Nat×Bool)} {T:TypeId} {Gf:Bool} {vd:List Value} {rs sc:List Wb} {μ:M} {J:World}
theorem Tv {α:Type} [cb α] {B:Nat} {t:TypeId} {s x:Operand} {v:Value} {bytes k b e c:Nat} {cells news:List Value} {l ys Ia:List α} (m:P.underlying t=some (.slice T)) (n:Lc P T Gf vd (cb.sz α) bytes) (o:vd.length=cb.sz α)
  (p:wb fr s v) (q:wb fr x (.slice (some ⟨b,0,none⟩) e c)) (f:ka μ J w rs) (qa:hc rs k (.row v T (cb.sz α) l.length cells)) (r:gj w b 0 news) (i:pa μ news ys) (hm:ys.length=e) (Ul:ll B l ys=some Ia) (y:B*bytes≤140737488355328∧B≤9223372036854775807)
  (h:∀ d w' sc,Ac rs k (.row d T (cb.sz α) Ia.length (cells++news)) sc→ka μ J w' sc→Kg fr dst d fun Ca=>K Ca ds w') :
  Zd P (Oper.mk dst (.call { callee:=.builtin .append,args:=#[s,x],argTypes:=#[t,t] }) ty pos after g) fr ds w K Q:=by
 obtain ⟨rfl,z⟩:=gB Ul
 subst hm
 have A:(l.length+ys.length)*bytes≤140737488355328:=Nat.le_trans (Nat.mul_le_mul_right _ z) y.1
 obtain ⟨d,w',C,D,E,F⟩:=Ry (P:=P) (ty:=ty) m n o cb.pos (f.get qa) (a:=⟨b,0,none⟩) (c:=c) i.len (fun j u hu=>by rw [Fi]; exact r j u hu) (fun u hu=>Jv (List.all_eq_true.1 i.si u hu)) (by unfold maxLen; omega) A
 obtain ⟨Ca,ya⟩:=jh fr dst d
 have hlen:(l++ys).length=l.length+ys.length:=List.length_append
 rw [hlen] at h
 refine ig (v:=d) (w':=w') ?_ ya (h d w' _ rfl (f.row qa rfl D E F) Ca ya)
 have sa:=p ds
 have G:=q ds
 simp [execOp,resolve,invoke,builtin,sa,G,C]
end
end Go.Dc
namespace Go.Dc
open Go.bc Go.RowKit
def zm (N:List (List UInt8×Int)) (y:Int):Option (Option (List UInt8×Int)) :=
 if (N.filter fun e=>decide (e.2=y)).length≤1 then some (N.filter fun e=>decide (e.2=y)).head? else none
section
variable {P:Program} {Q:Exit→Act→World→Prop} {K:List Value→List Deferred→World→Prop} {fr Ca:List Value} {ds:List Deferred} {w:World}
variable {dst:Option Tmp} {ty:TypeId} {pos:String} {after:Array Edge} {g:Option (Nat×Bool)}
variable {J:World} {rs sc:List Wb} {μ na:M}
variable {T:TypeId}
theorem DA {x:Operand} {af aa:TypeId} {m c:Nat} {es:List MapEntry} (a:P.underlying T=some (.map af aa)) (d:wb fr x (.map (some m))) (e:ka μ J w rs) (f:w.heap[m]?=some (.map ⟨es⟩ c))
  (h:∀ b w',w.heap.size≤b→ka μ J w' (.aj b m c [] c::rs)→Kg fr dst (.pointer (some ⟨b,0,none⟩)) fun Ca=>K Ca ds w'):Zd P (Oper.mk dst (.range T x) ty pos after g) fr ds w K Q:=by
 obtain ⟨Ca,ya⟩:=jh fr dst (.pointer (some ⟨w.heap.size,0,none⟩))
 refine ig (v:=.pointer (some ⟨w.heap.size,0,none⟩)) (w':=w.alloc (.mapIter (some m) c #[] c)) ?_ ya (h _ _ (Nat.le_refl _) (e.alloc rfl (heap_alloc_new w _)) Ca ya)
 simp [execOp,d ds,Instr.range,run_underlying a,getObj,Sem.run,f,Result.andThen]
def leftOf (es:List MapEntry) (seen:List Nat):List MapEntry:=es.filter fun e=>!seen.contains e.born
theorem mem_left {es:List MapEntry} {seen:List Nat} {e:MapEntry}:e ∈ leftOf es seen ↔ e ∈ es∧e.born ∉ seen:=by
 simp [leftOf,List.mem_filter]
theorem fF {es:List MapEntry} {seen:List Nat} {c:Nat} (a:∀ e ∈ es,e.born<c) :
  ((⟨es⟩:Array MapEntry).filter fun e=>!(⟨seen⟩:Array Nat).contains e.born)=⟨leftOf es seen⟩ ∧
  ((⟨leftOf es seen⟩:Array MapEntry).filter fun e=>decide (e.born<c))=⟨leftOf es seen⟩∧((⟨leftOf es seen⟩:Array MapEntry).filter fun e=>decide (e.born ≥ c))=#[]:=by
 have b:(leftOf es seen).filter (fun e=>decide (e.born<c))=leftOf es seen:=List.filter_eq_self.2 fun e he=>by simpa using a e (mem_left.1 he).1
 have d:(leftOf es seen).filter (fun e=>decide (e.born ≥ c))=[]:=List.filter_eq_nil_iff.2 fun e he=>by have:=a e (mem_left.1 he).1; simp; omega
 refine ⟨?_,?_,?_⟩
 ·rw [List.filter_toArray]
  simp [leftOf]
 ·rw [List.filter_toArray,b]
 ·rw [List.filter_toArray,d]
theorem TF {es:List MapEntry} {seen:List Nat} {c:Nat} (a:∀ e ∈ es,e.born<c):(!(⟨seen⟩:Array Nat).isEmpty && !(⟨es⟩:Array MapEntry).isEmpty && (⟨es⟩:Array MapEntry).all (fun e=>decide (e.born ≥ c)))=false:=by
 cases es with
 | nil=>simp
 | cons e es =>
  have:=a e (List.mem_cons_self ..)
  have h:¬ c≤e.born:=by omega
  simp only [List.all_toArray,List.all_cons]
  simp [h]
theorem hB {x:Operand} {b m c G:Nat} {es:List MapEntry} {seen:List Nat} {N:List (List UInt8×Int)} {Mk:M} (q:wb fr x (.pointer (some ⟨b,0,none⟩))) (r:ka μ J w rs) (s:hc rs G (.aj b m c seen c)) (u:w.heap[m]?=some (.map ⟨es⟩ c)) (v:je Mk es c N)
  (H:∀ (k:List UInt8) (y:Int) (n:Nat),⟨S k,.int .i64 y,n⟩ ∈ leftOf es seen→∀ w' sc,Ac rs G (.aj b m c (seen++[n]) c) sc→ka μ J w' sc→Kg fr dst (.tuple ⟨[.bool true,S k,.int .i64 y]⟩) fun Ca=>K Ca ds w')
  (R:leftOf es seen=[]→Kg fr dst (.tuple ⟨[.bool false]⟩) fun Ca=>K Ca ds w) :
  Zd P (Oper.mk dst (.next x false) ty pos after g) fr ds w K Q:=by
 have f:w.heap[b]?=some (.mapIter (some m) c ⟨seen⟩ c):=r.get s
 have L:b<w.heap.size:=(Array.getElem?_eq_some_iff.1 f).1
 obtain ⟨j,l,o⟩:=fF (seen:=seen) v.lt
 have z:=TF (seen:=seen) v.lt
 have key:∀ e ∈ leftOf es seen,∃ (k:List UInt8) (y:Int),e=⟨S k,.int .i64 y,e.born⟩:=by
  intro e he
  have he:=(mem_left.1 he).1
  have:∀ (es:List MapEntry) (N:List (List UInt8×Int)),Pe Mk es N→∀ e ∈ es,∃ (k:List UInt8) (y:Int),e=⟨S k,.int .i64 y,e.born⟩:=by
   intro es
   induction es with
   | nil=>intro N _ e he; cases he
   | cons a es T =>
    intro N h e he
    rw [Pe] at h
    obtain ⟨k,x,t,A,B,C,V⟩:=h
    rcases List.mem_cons.1 he with rfl | he
    ·obtain ⟨a,b,n⟩:=e
     have B:a=S k:=B
     have C:b=.int .i64 x:=C
     subst B; subst C
     exact ⟨k,x,rfl⟩
    ·exact T t V e he
  exact this es N v.df e he
 cases d:leftOf es seen with
 | nil =>
  obtain ⟨Ca,ya⟩:=jh fr dst (.tuple ⟨[.bool false]⟩)
  refine ig (w':=w) ?_ ya (R d Ca ya)
  rw [d] at j l o
  simp only [execOp,q ds,Instr.next,getObj,Sem.run_bind,Sem.run,f,Result.andThen,u,z,Bool.false_eq_true,if_false,j,l,o]
  simp [Sem.run,Result.andThen,choose,Question.forced]
 | cons hb t0 =>
  rw [d] at j l o
  by_cases A:t0=[]
  ·subst A
   obtain ⟨k,y,e⟩:=key hb (by rw [d]; exact List.mem_singleton.2 rfl)
   obtain ⟨D,E⟩:=Vr w b (.mapIter (some m) c ⟨seen++[hb.born]⟩ c) L
   obtain ⟨Ca,p⟩:=jh fr dst (.tuple ⟨[.bool true,S k,.int .i64 y]⟩)
   refine ig (w':={ w with heap:=w.heap.setIfInBounds b (.mapIter (some m) c ⟨seen++[hb.born]⟩ c) }) ?_ p (H k y hb.born (by rw [d,← e]; exact List.mem_singleton.2 rfl) _ _ rfl (r.put (b:=b) s rfl rfl rfl E D) Ca p)
   rw [e] at j l o
   simp only [execOp,q ds,Instr.next,getObj,Sem.run_bind,Sem.run,f,Result.andThen,u,z,Bool.false_eq_true,if_false,j,l,o]
   simp [Sem.run,Result.andThen,choose,Question.forced,setObj,f]
  ·have hlen:¬ (hb::t0).length≤1:=by
    cases t0 with
    | nil=>exact absurd rfl A
    | cons _ _=>simp
   let i:=(w.tape w.drawn (.mapNext (hb::t0).length)) % (hb::t0).length
   have F:i<(hb::t0).length:=Nat.mod_lt _ (by simp)
   obtain ⟨k,y,e⟩:=key ((hb::t0)[i]) (by rw [d]; exact List.getElem_mem F)
   obtain ⟨D,E⟩:=Vr w.drew b (.mapIter (some m) c ⟨seen++[((hb::t0)[i]).born]⟩ c) L
   obtain ⟨Ca,p⟩:=jh fr dst (.tuple ⟨[.bool true,S k,.int .i64 y]⟩)
   refine ig (w':={ w.drew with heap:=w.drew.heap.setIfInBounds b (.mapIter (some m) c ⟨seen++[((hb::t0)[i]).born]⟩ c) }) ?_ p (H k y ((hb::t0)[i]).born (by rw [d,← e]; exact List.getElem_mem F) _ _ rfl ((r.drew (w':=w.drew) rfl rfl rfl rfl).put (b:=b) s rfl rfl rfl E D) Ca p)
   have W:w.drew.heap[b]?=some (.mapIter (some m) c ⟨seen⟩ c):=f
   have X:((if (⟨hb::t0⟩:Array MapEntry).isEmpty=true then #[none] else #[])++((⟨hb::t0⟩:Array MapEntry)++#[]).map some)=⟨(hb::t0).map some⟩:=by simp
   simp only [execOp,q ds,Instr.next,getObj,Sem.run_bind,Sem.run,f,Result.andThen,u,z,Bool.false_eq_true,if_false,j,l,o,X]
   have Y:(⟨(hb::t0).map some⟩:Array (Option MapEntry)).size=(hb::t0).length:=by simp
   have Z:(Question.mapNext (hb::t0).length).forced=false:=decide_eq_false hlen
   have gc:(⟨(hb::t0).map some⟩:Array (Option MapEntry))[(Question.mapNext (hb::t0).length).cut (w.tape w.drawn (.mapNext (hb::t0).length))]?=some (some ((hb::t0)[i])):=by
    show (⟨(hb::t0).map some⟩:Array (Option MapEntry))[i]?=_
    rw [List.getElem?_toArray,List.getElem?_map,List.getElem?_eq_getElem F]
    rfl
   simp only [Y,choose,Sem.run,Z,gc,Bool.false_eq_true,if_false]
   generalize (hb::t0)[i]=sa at *
   rw [e]
   simp [Sem.run,Result.andThen,setObj,W]
theorem find_born {n:Nat}:∀ {es:List MapEntry} {e:MapEntry},(es.Pairwise fun a b=>a.born<b.born)→e ∈ es→e.born=n→es.find? (fun a=>a.born == n)=some e
 | a::es,e,h,he,c=>by
  rw [List.find?_cons]
  rcases List.mem_cons.1 he with rfl | d
  ·simp [c]
  ·have f:=(List.pairwise_cons.1 h).1 e d
   have:¬ a.born=n:=by omega
   simp only [beq_eq_false_iff_ne.2 this]
   exact find_born (List.pairwise_cons.1 h).2 d c
theorem EA {x:Operand} {b m c d n:Nat} {es:List MapEntry} {seen:List Nat} {N:List (List UInt8×Int)} {Mk:M} {k:List UInt8} {y:Int} (e:wb fr x (.pointer (some ⟨b,0,none⟩))) (f:ka μ J w rs) (i:hc rs d (.aj b m c (seen++[n]) c)) (j:w.heap[m]?=some (.map ⟨es⟩ c)) (l:je Mk es c N) {o:List Nat} (he:⟨S k,.int .i64 y,n⟩ ∈ leftOf es o)
  (ya:hf fr dst (.tuple ⟨[S k,.int .i64 y]⟩) Ca) (h:K Ca ds w) :
  Zd P (Oper.mk dst (.entry x) ty pos after g) fr ds w K Q:=by
 have p:w.heap[b]?=some (.mapIter (some m) c ⟨seen++[n]⟩ c):=f.get i
 have q:(⟨seen++[n]⟩:Array Nat).back?=some n:=by simp [Array.back?]
 have r:(⟨es⟩:Array MapEntry).find? (fun a=>a.born == n)=some ⟨S k,.int .i64 y,n⟩:=by rw [List.find?_toArray]; exact find_born l.inc (mem_left.1 he).1 rfl
 refine ig (w':=w) ?_ ya h
 simp only [execOp,e ds,Instr.entry,getObj,Sem.run_bind,Sem.run,p,Result.andThen,j,q,r]
 simp [Sem.run]
def Sj (es:List MapEntry) (seen:List Nat) (y:Int) (n:Nat):Prop:=(leftOf es seen).length=n∧∀ e ∈ es,e.born ∈ seen→e.val≠.int .i64 y
theorem Sj.start {es:List MapEntry} {y:Int}:Sj es [] y es.length:=⟨by rw [leftOf,List.filter_eq_self.2 (by simp)],by simp⟩
theorem Sj.step {es:List MapEntry} {seen:List Nat} {y x:Int} {n m c:Nat} {k:List UInt8} {N:List (List UInt8×Int)} {Mk:M} (h:Sj es seen y n) (d:je Mk es c N) (he:⟨S k,.int .i64 x,m⟩ ∈ leftOf es seen) (i:¬ x=y):∃ f,f<n∧Sj es (seen++[m]) y f:=by
 obtain ⟨j,l⟩:=h
 refine ⟨_,?_,rfl,fun e hm b=>?_⟩
 ·rw [← j]
  have e:leftOf es (seen++[m])=(leftOf es seen).filter fun a=>decide (a.born≠m):=by
   rw [leftOf,leftOf,List.filter_filter]
   apply List.filter_congr
   intro a _
   by_cases q:a.born=m <;> simp [q]
  rw [e]
  refine Nat.lt_of_le_of_ne (List.length_filter_le ..) fun o=>?_
  have:=(List.length_filter_eq_length_iff.1 o) _ he
  simp at this
 ·rcases List.mem_append.1 b with b | b
  ·exact l e hm b
  ·have b:=List.mem_singleton.1 b
   have sa:=find_born d.inc hm b
   have g:=find_born d.inc (mem_left.1 he).1 rfl
   rw [sa] at g
   rw [Option.some.inj g]
   intro q
   cases q
   exact i rfl
theorem Pe.mem_of {Mk:M} {k:List UInt8} {y:Int} {n:Nat}:∀ {es:List MapEntry} {N:List (List UInt8×Int)},Pe Mk es N→(⟨S k,.int .i64 y,n⟩:MapEntry) ∈ es→(k,y) ∈ N
 | a::es,N,h,he=>by
  rw [Pe] at h
  obtain ⟨d,x,t,rfl,b,c,e⟩:=h
  rcases List.mem_cons.1 he with rfl | he
  ·have b:S k=S d:=b
   have c:Value.int .i64 y=.int .i64 x:=c
   cases c
   cases b
   exact List.mem_cons_self ..
  ·exact List.mem_cons_of_mem _ (Pe.mem_of e he)
theorem Pe.KB {Mk:M} {k:List UInt8} {y:Int}:∀ {es:List MapEntry} {N:List (List UInt8×Int)},Pe Mk es N→(k,y) ∈ N→∃ e ∈ es,e.val=.int .i64 y
 | [],N,h,he=>by rw [Pe] at h; subst h; cases he
 | a::es,N,h,he=>by
  rw [Pe] at h
  obtain ⟨g,x,t,rfl,i,b,c⟩:=h
  rcases List.mem_cons.1 he with e | he
  ·cases e
   exact ⟨a,List.mem_cons_self ..,b⟩
  ·obtain ⟨e,d,f⟩:=Pe.KB c he
   exact ⟨e,List.mem_cons_of_mem _ d,f⟩
theorem Sj.hit {es:List MapEntry} {seen:List Nat} {y x:Int} {m c:Nat} {k:List UInt8} {N:List (List UInt8×Int)} {Mk:M} {o:Option (List UInt8×Int)} (f:je Mk es c N) (he:⟨S k,.int .i64 x,m⟩ ∈ leftOf es seen) (h:x=y) (g:zm N y=some o):o.isSome=true∧k=(o.getD ([],0)).1:=by
 subst h
 have hm:=Pe.mem_of f.df (mem_left.1 he).1
 rw [zm] at g
 split at g
 ·rename_i qa
  obtain rfl:=Option.some.inj g
  have i:(k,x) ∈ N.filter fun e=>decide (e.2=x):=List.mem_filter.2 ⟨hm,by simp⟩
  have aux:∀ F:List (List UInt8×Int),F.length≤1→(k,x) ∈ F→F.head?=some (k,x):=by
   intro F b d
   match F,b,d with
   | [a],_,d=>rw [List.mem_singleton.1 d]; rfl
   | _::_::_,b,_=>simp at b
  rw [aux _ qa i]
  exact ⟨rfl,rfl⟩
 ·cases g
theorem Sj.fin {es:List MapEntry} {seen:List Nat} {y:Int} {n c:Nat} {N:List (List UInt8×Int)} {Mk:M} {o:Option (List UInt8×Int)} (h:Sj es seen y n) (i:je Mk es c N) (qa:leftOf es seen=[]) (g:zm N y=some o):¬ o.isSome=true:=by
 have he:N.filter (fun e=>decide (e.2=y))=[]:=by
  rw [List.filter_eq_nil_iff]
  intro a j b
  obtain ⟨k,x⟩:=a
  have b:x=y:=by simpa using b
  subst b
  obtain ⟨e,d,l⟩:=Pe.KB i.df j
  by_cases f:e.born ∈ seen
  ·exact h.2 e d f l
  ·have:e ∈ leftOf es seen:=mem_left.2 ⟨d,f⟩
   rw [qa] at this
   cases this
 rw [zm,he] at g
 obtain rfl:=Option.some.inj g
 simp
abbrev zC (_:M) (es:List MapEntry) (seen:List Nat) (y:Int) (n:Nat):Prop:=Sj es seen y n
end
end Go.Dc
namespace Go.Dc
open Go.bc Go.RowKit
def Ho (n:Int):Option (List UInt8):=if -9223372036854775808≤n∧n≤9223372036854775807 then some (Lib.itoa n) else none
def Bf (_:M) (b:Nat) (v:Value):Prop:=v=.pointer none∨v=.pointer (some ⟨b,0,none⟩)
theorem Bf.nil {μ:M} {b:Nat}:Bf μ b (.pointer none):=.inl rfl
theorem Bf.up {μ na:M} {b:Nat} {v:Value} (h:Bf μ b v) (_:ga μ na):Bf na b v:=h
theorem ck {κ β:Type} [DecidableEq κ]:∀ (m:List (κ×β)) (a k:κ) (x:β),vb (cc m a x) k=if a=k then some x else vb m k
 | [],a,k,x=>by simp [cc,vb]
 | (b,y)::m,a,k,x=>by
  by_cases h:b=a
  ·subst h; simp only [cc,vb,if_pos]; split <;> rfl
  ·simp only [cc,vb,if_neg h,ck m a k x]
   by_cases c:b=k
   ·subst c; simp [Ne.symm h]
   ·simp [c]
theorem yE {κ β:Type} [DecidableEq κ] {m:List (κ×β)} {a b k:κ} {x y:β} (h:a≠b):vb (cc (cc m a x) b y) k=vb (cc (cc m b y) a x) k:=by
 simp only [ck]
 split <;> split <;> simp_all
section
variable {P:Program} {w:World} {T:TypeId} {vd:List Value} {n:Nat}
theorem GC {t u ty:TypeId} (f:P.underlying t=some (.slice T)) (hu:P.underlying u=some .string) (H:Lc P T false vd 1 1) (K:vd=[.int .u8 0])
  {v:Value} {xs:List Value} (p:Row w v T 1 n xs) (s:ByteArray) (A:n+s.size≤maxLen) (W:n+s.size≤140737488355328) :
  ∃ h w',(Builtin.append_ #[t,u] ty #[v,.string s]).run P w=.ok h w'∧Row w' h T 1 (n+s.size) (xs++Lib.strCells s)∧xh (fun b=>some b≠v.ownBlock) w w' ∧
   (h.ownBlock=v.ownBlock∨∃ b,h.ownBlock=some b∧w.heap.size≤b):=by
 obtain ⟨i,z,l,B,L,C,D⟩:=H.inf
 have M:z.cells.size=1:=by rw [L,K]; rfl
 have X:n+s.size≤9223372036854775807:=by simp only [maxLen] at A; omega
 have qa:(Lib.strCells s).length=s.size:=Lib.strCells_length s
 have q:xs.length=n:=by simpa using p.1
 have hlen:(xs++Lib.strCells s).length=(n+s.size)*1:=by rw [List.length_append,q,qa,Nat.mul_one]
 have grown:∀ (a:Nat),a<n+s.size→∀ (row:Option Nat),
   Row (w.drew.alloc (.cells (xs.toArray++(Lib.strCells s).toArray++Builtin.zeroCells z.cells (grownCap w (n+s.size) a T - (n+s.size))) T)) (.slice (some ⟨w.heap.size,0,none⟩) (n+s.size) (grownCap w (n+s.size) a T)) T 1 (n+s.size) (xs++Lib.strCells s) ∧
   xh (fun b=>some b≠row) w (w.drew.alloc (.cells (xs.toArray++(Lib.strCells s).toArray++Builtin.zeroCells z.cells (grownCap w (n+s.size) a T - (n+s.size))) T)):=by
  intro a Y row
  have N:=grownCap_ge w (n+s.size) a T
  have r:grownCap w (n+s.size) a T≤maxLen:=grownCap_le_maxLen w (n+s.size) a T A
  refine ⟨⟨hlen,.inr ⟨w.heap.size,0,_,_,rfl,heap_alloc_new w.drew _,N,r,?_,?_⟩⟩,⟨rfl,rfl,rfl,by simp,fun k m _=>by first | exact heap_alloc_old w.drew _ k m | exact heap_alloc_old w.drew _ m⟩⟩
  ·simp only [Array.size_append,List.size_toArray,size_zeroCells,M,q,qa]
   omega
  ·simp only [Array.toList_append,List.append_assoc,List.drop_zero]
   rw [← List.append_assoc,← hlen]
   exact List.take_left
 rcases p.2 with ⟨rfl,rfl⟩ | ⟨g,o,cap,cur,rfl,x,Z,r,gc,E⟩
 ·have Q:xs=[]:=List.eq_nil_of_length_eq_zero q
  subst Q
  by_cases hm:s.size=0
  ·have R:Lib.strCells s=[]:=List.eq_nil_of_length_eq_zero (by omega)
   refine ⟨.slice none 0 0,w,?_,⟨by simp [R,hm],.inl ⟨rfl,by omega⟩⟩,.refl w,.inl rfl⟩
   have y:=Lib.run_firstCells_string (P:=P) w i.size s
   rw [hm] at y
   simp [Builtin.append_,run_underlying f,run_underlying hu,sizeOf,typeInfo,l,Builtin.lenOf,hm,Builtin.firstCells,loadCells,loadCellsFrom]
  ·have d:=run_append_nil_string (P:=P) w t u ty T i z f hu l B s (by omega) (by omega) (by rw [D]; omega)
   have c:=grown 0 (by omega) (Value.ownBlock (.slice none 0 0))
   simp only [Nat.zero_add,List.nil_append,Array.empty_append] at c ⊢
   refine ⟨_,_,d,?_,?_,.inr ⟨_,rfl,Nat.le_refl _⟩⟩
   ·have e:(s.data.map fun b=>Value.int .u8 b.toNat)=(Lib.strCells s).toArray:=by
     apply Array.ext'
     simp [Lib.strCells]
    rw [e]
    exact c.1
   ·have e:(s.data.map fun b=>Value.int .u8 b.toNat)=(Lib.strCells s).toArray:=by
     apply Array.ext'
     simp [Lib.strCells]
    rw [e]
    exact c.2
 ·by_cases F:n+s.size≤cap
  ·have S:o+n+s.size≤cur.size:=by omega
   have d:(Builtin.append_ #[t,u] ty #[.slice (some ⟨g,o,none⟩) n cap,.string s]).run P w =
     .ok (.slice (some ⟨g,o,none⟩) (n+s.size) cap) (w.setRow g (cur.toList.take (o+n)++Lib.strCells s++cur.toList.drop (o+n+s.size)).toArray):=by
    have y:=Lib.run_firstCells_string (P:=P) w 1 s
    have G:=run_storeCells_at P g (o+n) T (Lib.strCells s) 0 cur w x (by simpa [qa] using S) (Lib.strCells_oneCell s)
    simp only [Nat.add_zero,qa] at G
    simp [Builtin.append_,run_underlying f,run_underlying hu,sizeOf,typeInfo,l,C,Builtin.lenOf,F,y,Fi,G]
   refine ⟨_,_,d,⟨hlen,.inr ⟨g,o,cap,_,rfl,setRow_heap w g cur _ T _ x,F,r,?_,?_⟩⟩,⟨rfl,rfl,rfl,by simp [World.setRow],fun k _ m=>setRow_other w g k _ (fun e=>m (by simp [Value.ownBlock,e]))⟩,.inl rfl⟩
   ·simp only [List.size_toArray,List.length_append,List.length_take,List.length_drop,Array.length_toList,qa]
    omega
   ·rw [← hlen,← E]
    have sa:(cur.toList.take (o+n)).drop o=(cur.toList.drop o).take (n*1):=by
     rw [List.drop_take]; congr 1; omega
    have V:o≤(cur.toList.take (o+n)).length:=by simp; omega
    rw [List.append_assoc,List.drop_append_of_le_length V,sa,← List.append_assoc]
    exact List.take_left
  ·have holds:∀ j u,xs[j]?=some u→w.cell? ((⟨g,o,none⟩:Addr).add j)=some u:=by
    intro j u hu
    rw [Fi,cell_of_row w g (o+j) cur T (0,0) x]
    rw [← E,List.getElem?_take] at hu
    split at hu
    ·rw [List.getElem?_drop] at hu; simpa using hu
    ·cases hu
   have d:=Lib.run_append_grow_string (P:=P) w t u ty T i z f hu l B ⟨g,o,none⟩ n cap xs (by rw [C]; exact p.1) holds s (by omega) (by omega) (growslice_fits (by omega) (by rw [D]; omega))
   have c:=grown cap (by omega) (Value.ownBlock (.slice (some ⟨g,o,none⟩) n cap))
   exact ⟨_,_,d,c.1,c.2,.inr ⟨_,rfl,Nat.le_refl _⟩⟩
end
section
variable {P:Program} {Q:Exit→Act→World→Prop} {K:List Value→List Deferred→World→Prop} {fr Ca:List Value} {ds:List Deferred} {w:World}
variable {dst:Option Tmp} {ty:TypeId} {pos:String} {after:Array Edge} {g:Option (Nat×Bool)}
variable {J:World} {rs sc:List Wb} {μ na:M}
variable {T:TypeId}
theorem gF {t u:TypeId} {s x:Operand} {v:Value} {k:Nat} {cells:List Value} {l y Ia:List UInt8} (e:P.underlying t=some (.slice T)) (hu:P.underlying u=some .string) (f:Lc P T false [.int .u8 0] 1 1)
  (i:wb fr s v) (j:wb fr x (S y)) (c:ka μ J w rs) (qa:hc rs k (.row v T 1 l.length cells)) (Ul:app l y=some Ia)
  (h:∀ a w' sc,Ac rs k (.row a T 1 Ia.length (cells++Lib.strCells ⟨⟨y⟩⟩)) sc→ka μ J w' sc→Kg fr dst a fun Ca=>K Ca ds w') :
  Zd P (Oper.mk dst (.call { callee:=.builtin .append,args:=#[s,x],argTypes:=#[t,u] }) ty pos after g) fr ds w K Q:=by
 obtain ⟨m,r⟩:=Qv Ul
 have b:(⟨⟨y⟩⟩:ByteArray).size=y.length:=rfl
 obtain ⟨a,w',n,d,o,p⟩:=GC (P:=P) (ty:=ty) e hu f rfl (c.get qa) ⟨⟨y⟩⟩ (by rw [b]; unfold maxLen; omega) (by rw [b]; omega)
 rw [b,← m] at d
 obtain ⟨Ca,ya⟩:=jh fr dst a
 refine ig (v:=a) (w':=w') ?_ ya (h a w' _ rfl (c.row qa rfl d o p) Ca ya)
 have sa:=i ds
 have q:=j ds
 simp [execOp,resolve,invoke,builtin,sa,q,S,n]
end
theorem pa.str {μ:M}:∀ y:List UInt8,pa μ (Lib.strCells ⟨⟨y⟩⟩) y
 | []=>pa.nil
 | c::y=>by
  exact pa.cons (α:=UInt8) (cs:=[.int .u8 (c.toNat:Int)]) rfl (pa.str y)
section
variable {P:Program} (w:World)
theorem KD {e:TypeId} (a:P.cellsOf e=1) (count o n:Nat) (b:o+n≤count):liesAt P P.depth e count o e n=true:=by
 have ya:P.depth=(2*(P.types.size+Made.depth)+1)+1:=rfl
 rw [ya]
 simp only [liesAt,Bool.or_eq_true]
 left
 rw [ya]
 simp [rowAt,a,sameLayout]
 omega
theorem EC (a it ty e:TypeId) (c:P.underlying a=some (.pointer e)) (b:P.cellsOf e=1) (g o cells:Nat) (d:w.shape? g=some (e,cells)) (l:List UInt8) (f:l≠[]) (h:o+l.length≤cells) (u:l.length≤9223372036854775807)
  (i:∀ j x,l[j]?=some x→w.cell? ((⟨g,o,none⟩:Addr).add j)=some (.int .u8 x.toNat)) :
  (Builtin.unsafeString_ #[a,it] ty #[.pointer (some ⟨g,o,none⟩),.int .i64 l.length]).run P w=.ok (.string ⟨l.toArray⟩) (w.freeze ⟨g,o,none⟩ l.length):=by
 have qa:l.length≠0:=by simpa using f
 have k:=Lib.run_loadBytes (P:=P) w l ⟨g,o,none⟩ .empty i
 have m:=KD (P:=P) b (cells / P.cellsOf e) o l.length (by rw [b]; simpa using h)
 have p:¬ (9223372036854775807:Int)<(l.length:Int):=by omega
 have q:Builtin.unsafeString_ #[a,it] ty #[.pointer (some ⟨g,o,none⟩),.int .i64 l.length] =
   (do
    let n ← asInt (.int .i64 l.length)
    if n < 0 then runtimePanic (.error "unsafe.String: len out of range")
    if n > IntKind.i64.max then unsupported (.unsafePointer "String: a length above the largest int")
    if n=0 then pure (.string .empty)
    else if ← variablesAt ⟨g,o,none⟩ (← elemOf a) n.toNat then do
     let s ← loadBytes ⟨g,o,none⟩ .empty n.toNat
     freeze ⟨g,o,none⟩ n.toNat
     pure (.string s)
    else unsupported (.unsafePointer "String: not so many bytes at ptr")) := rfl
 rw [q]
 have r:IntKind.i64.max=9223372036854775807:=rfl
 have t:¬ (l.length:Int)<0:=by omega
 simp [asInt,asIntOf,r,p,t,qa,variablesAt,d,elemOf,run_underlying c,m,k]
end
end Go.Dc
namespace Go.Dc
abbrev wd (l:List UInt8) (p:Nat):Nat:=(Utf8.decode ⟨⟨l⟩⟩ p).2
end Go.Dc
namespace Go.Dc
open Go.bc Go.RowKit
theorem pa.bytes {μ:M}:∀ {l:List UInt8} {cs:List Value},pa μ cs l→cs=l.map fun x=>.int .u8 (x.toNat:Int)
 | [],cs,h=>h
 | c::l,cs,h=>by
  obtain ⟨a,t,rfl,b,d⟩:=h
  have b:a=[.int .u8 (c.toNat:Int)]:=b
  rw [b,pa.bytes d]
  rfl
section
variable {P:Program} {Q:Exit→Act→World→Prop} {K:List Value→List Deferred→World→Prop} {fr Ca:List Value} {ds:List Deferred} {w:World}
variable {dst:Option Tmp} {ty:TypeId} {pos:String} {after:Array Edge} {Ul:Option (Nat×Bool)}
variable {J:World} {rs sc:List Wb} {μ na:M}
variable {T:TypeId}
theorem FG {d it:TypeId} {x y:Operand} {l:List UInt8} {v:Value} {cs:List Value} {a p:Option Addr} {k cap:Nat} (s:l≠[]→p=a) (u:P.underlying d=some (.pointer T)) (z:P.cellsOf T=1) (e:v=.slice a l.length cap)
  (A:wb fr x (.pointer p)) (B:wb fr y (.int .i64 (l.length:Int))) (m:ka μ J w rs) (qa:hc rs k (.row v T 1 l.length cs)) (hm:pa μ cs l)
  (h:∀ w' r' sc,Ac rs k r' sc→ka μ J w' sc→Kg fr dst (S l) fun Ca=>K Ca ds w') :
  Zd P (Oper.mk dst (.call { callee:=.builtin .unsafeString,args:=#[x,y],argTypes:=#[d,it] }) ty pos after Ul) fr ds w K Q:=by
 subst e
 have sa:=A ds
 have n:=B ds
 by_cases c:l=[]
 ·subst c
  obtain ⟨Ca,ya⟩:=jh fr dst (S [])
  have C:rs.set k (.row (.slice a 0 cap) T 1 0 cs)=rs:=by
   obtain ⟨r,he⟩:=List.getElem?_eq_some_iff.1 qa
   have he:rs[k]=.row (.slice a 0 cap) T 1 0 cs:=he
   rw [← he]
   exact List.set_getElem_self r
  refine ig (v:=S []) (w':=w) ?_ ya (h w (.row (.slice a 0 cap) T 1 0 cs) _ rfl (by rw [C]; exact m) Ca ya)
  have q:=Lib.run_unsafeString_none (P:=P) w d it ty p
  simp only [List.length_nil] at n
  simp [execOp,resolve,invoke,builtin,sa,n,q,S]
  rfl
 ·obtain rfl:=s c
  obtain ⟨N,D⟩:=m.get qa
  rcases D with ⟨e,E⟩ | ⟨g,o,R,cur,e,f,V,F,W,G⟩
  ·exact absurd (List.length_eq_zero_iff.1 E) c
  ·cases e
   have H:∀ j x,l[j]?=some x→w.cell? ((⟨g,o,none⟩:Addr).add j)=some (.int .u8 x.toNat):=by
    intro j x i
    have X:j<l.length:=(List.getElem?_eq_some_iff.1 i).1
    rw [Fi,cell_of_row w g (o+j) cur T (0,0) f]
    have:=congrArg (fun t:List Value=>t[j]?) (G.trans hm.bytes)
    simp only [List.getElem?_take,List.getElem?_drop,List.getElem?_map,i] at this
    rw [if_pos (by omega)] at this
    simpa using this
   have q:=EC (P:=P) w d it ty T u z g o cur.size (by simp [World.shape?,f]) l c (by omega) (by unfold maxLen at F; omega) H
   obtain ⟨Ca,ya⟩:=jh fr dst (S l)
   have r:g<w.heap.size:=(Array.getElem?_eq_some_iff.1 f).1
   have hw:(w.freeze ⟨g,o,none⟩ l.length).heap[g]?=some (.cells cur T (o,o+l.length)):=by
    have L:l.length≠0:=by simpa using c
    simp [World.freeze,L,Array.getElem?_modify,f]
   have M:xh (fun k=>k≠g) w (w.freeze ⟨g,o,none⟩ l.length):=by
    unfold World.freeze
    split
    ·exact .refl w
    ·exact ⟨rfl,rfl,rfl,by simp,fun j _ i=>by simp [Array.getElem?_modify,Ne.symm i]⟩
   refine ig (v:=S l) (w':=w.freeze ⟨g,o,none⟩ l.length) ?_ ya (h _ (.ro g T cur.toList) _ rfl (m.put qa (b:=g) rfl rfl rfl ⟨_,hw⟩ M) Ca ya)
   simp [execOp,resolve,invoke,builtin,sa,n,q,S]
theorem SH {e:TypeId} {x:Operand} {l:List UInt8} {v:Value} {cs:List Value} {a:Option Addr} {k cap:Nat} {d:Array TypeId} (j:P.underlying ty=some (.pointer e)) (b:v=.slice a l.length cap)
  (m:wb fr x v) (c:ka μ J w rs) (qa:hc rs k (.row v T 1 l.length cs))
  (h:∀ w' p,(l≠[]→p=a)→ka μ J w' rs→Kg fr dst (.pointer p) fun Ca=>K Ca ds w') :
  Zd P (Oper.mk dst (.call { callee:=.builtin .unsafeSliceData,args:=#[x],argTypes:=d }) ty pos after Ul) fr ds w K Q:=by
 subst b
 have sa:=m ds
 cases a with
 | none =>
  obtain ⟨Ca,ya⟩:=jh fr dst (.pointer none)
  refine ig (v:=.pointer none) (w':=w) ?_ ya (h w none (fun _=>rfl) c Ca ya)
  simp [execOp,resolve,invoke,builtin,sa,Lib.run_unsafeSliceData_nil]
 | some a0 =>
  by_cases f:cap=0
  ·subst f
   obtain ⟨u,n⟩:=c.get qa
   rcases n with ⟨b,-⟩ | ⟨g,o,y,cur,b,q,z,A,B,C⟩
   ·cases b
   ·cases b
    have r:l=[]:=List.length_eq_zero_iff.1 (by omega)
    have s:=Lib.run_unsafeSliceData_zero (P:=P) w d ty e j ⟨g,o,none⟩ l.length (T,cur.size) (by simp [World.shape?,q])
    obtain ⟨Ca,ya⟩:=jh fr dst (.pointer (some ⟨w.heap.size,0,none⟩))
    refine ig (v:=.pointer (some ⟨w.heap.size,0,none⟩)) (w':=w.alloc (.view ⟨g,o,none⟩ e)) ?_ ya (h (w.alloc (.view ⟨g,o,none⟩ e)) _ (fun t=>absurd r t) (c.grow ⟨rfl,rfl,rfl,by simp,fun k i _=>by first | exact heap_alloc_old w _ k i | exact heap_alloc_old w _ i⟩) Ca ya)
    simp [execOp,resolve,invoke,builtin,sa,s]
  ·obtain ⟨Ca,ya⟩:=jh fr dst (.pointer (some a0))
   refine ig (v:=.pointer (some a0)) (w':=w) ?_ ya (h w (some a0) (fun _=>rfl) c Ca ya)
   simp [execOp,resolve,invoke,builtin,sa,Lib.run_unsafeSliceData_row _ _ _ _ _ _ f]
end
end Go.Dc
namespace Go.Dc
open Go.bc Go.RowKit
section
variable {P:Program} {Q Q':Exit→Act→World→Prop} {fr Ca:List Value} {ds:List Deferred} {w:World} {ops:Array Oper} {y:Code} {id:Nat} {l:List Oper}
theorem ja (h:He P y Q' fr ds w):qf P ops (Exit.then (Ip P y Q') Q) [] fr ds w:=La (ra h)
theorem ea (h:qf P l.toArray (Exit.then (Ip P y Q) Q) l fr ds w):He P (.seq (.region id l.toArray false) y) Q fr ds w:=db (eb h)
theorem rb (h:qf P l.toArray (Exit.then (Ip P y Q') Q') l fr ds w):qf P ops (Exit.then (Ip P (.seq (.region id l.toArray false) y) Q') Q) [] fr ds w:=La (ra (db (eb h)))
theorem ob {x:Code} (h:He P x (Exit.then (Ip P y Q') Q') fr ds w):qf P ops (Exit.then (Ip P (.seq x y) Q') Q) [] fr ds w:=La (ra (db h))
variable {R Lf:List Nat} {dst:Tmp} {op:Op} {ty:TypeId} {pos:String} {after:Array Edge} {v:Value} {nc:List Mon} {j d:Nat} {b re:Bool}
theorem ze (i:Nat) (S:List Nat) (he:(decide R.Nodup && enabled ops R i && waits ops R S i && Ll ops S R i && S.contains i,R.erase i,ops[i]?)=(true,Lf,some ⟨some dst,op,ty,pos,after,none⟩)) (a:uf P ⟨some dst,op,ty,pos,after,none⟩ fr v) (b:Ac fr dst v Ca) (h:We P ops Q nc Lf Ca ds w) (c:fl Q:=by first | exact mh fun _ _ _ h=>h | exact mh fun _ _ _ h=>h.2 | exact mh fun _ _ _ h=>h.2.2):We P ops Q nc R fr ds w:=Fo S c (congrArg (·.1) he) (congrArg (·.2.1) he) (congrArg (·.2.2) he) a b h
theorem Ns (i:Nat) (S:List Nat) (he:(decide R.Nodup && enabled ops R i && waits ops R S i && Ll ops S R i && S.contains i,R.erase i,ops[i]?)=(true,Lf,some ⟨some dst,op,ty,pos,after,some (j,b)⟩)) (a:(ops[j]?).bind (·.dst)=some d) (qa:hc fr d (.bool b)) (c:uf P ⟨some dst,op,ty,pos,after,some (j,b)⟩ fr v) (e:Ac fr dst v Ca) (h:We P ops Q nc Lf Ca ds w) (f:fl Q:=by first | exact mh fun _ _ _ h=>h | exact mh fun _ _ _ h=>h.2 | exact mh fun _ _ _ h=>h.2.2):We P ops Q nc R fr ds w:=BG S f (congrArg (·.1) he) (congrArg (·.2.1) he) (congrArg (·.2.2) he) a qa c e h
theorem Wn (i:Nat) (S:List Nat) (he:(decide R.Nodup && enabled ops R i && waits ops R S i && Ll ops S R i && S.contains i,R.erase i,ops[i]?)=(true,Lf,some ⟨some dst,op,ty,pos,after,some (j,b)⟩)) (a:(ops[j]?).bind (·.dst)=some d) (qa:hc fr d (.bool re)) (c:(re == b)=false) (e:Ac fr dst undef Ca) (h:We P ops Q nc Lf Ca ds w) (f:fl Q:=by first | exact mh fun _ _ _ h=>h | exact mh fun _ _ _ h=>h.2 | exact mh fun _ _ _ h=>h.2.2):We P ops Q nc R fr ds w:=CG S f (congrArg (·.1) he) (congrArg (·.2.1) he) (congrArg (·.2.2) he) a qa c e h
theorem Fb (i:Nat) (S:List Nat) (he:(decide R.Nodup && enabled ops R i && waits ops R S i && Ll ops S R i && S.contains i,R.erase i,ops[i]?)=(true,Lf,some ⟨some dst,op,ty,pos,after,none⟩)) (a:cn P ⟨some dst,op,ty,pos,after,none⟩ fr w v) (b:Ac fr dst v Ca) (h:We P ops Q ((S,fun w'=>cn P ⟨some dst,op,ty,pos,after,none⟩ fr w' v)::nc) Lf Ca ds w) (c:fl Q:=by first | exact mh fun _ _ _ h=>h | exact mh fun _ _ _ h=>h.2 | exact mh fun _ _ _ h=>h.2.2):We P ops Q nc R fr ds w:=qy S c (congrArg (·.1) he) (congrArg (·.2.1) he) (congrArg (·.2.2) he) a b h
theorem yy (i:Nat) (S:List Nat) (he:(decide R.Nodup && enabled ops R i && waits ops R S i && Ll ops S R i && S.contains i,R.erase i,ops[i]?)=(true,Lf,some ⟨some dst,op,ty,pos,after,some (j,b)⟩)) (a:(ops[j]?).bind (·.dst)=some d) (qa:hc fr d (.bool b)) (c:cn P ⟨some dst,op,ty,pos,after,some (j,b)⟩ fr w v) (e:Ac fr dst v Ca) (h:We P ops Q ((S,fun w'=>cn P ⟨some dst,op,ty,pos,after,some (j,b)⟩ fr w' v)::nc) Lf Ca ds w) (f:fl Q:=by first | exact mh fun _ _ _ h=>h | exact mh fun _ _ _ h=>h.2 | exact mh fun _ _ _ h=>h.2.2):We P ops Q nc R fr ds w:=AG S f (congrArg (·.1) he) (congrArg (·.2.1) he) (congrArg (·.2.2) he) a qa c e h
end
class ql (l:List Value) (n:Nat) (v:outParam Value):Prop where out:hc l n v
instance {v:Value} {l:List Value}:ql (v::l) 0 v:=⟨rfl⟩
instance {a v:Value} {l:List Value} {n:Nat} [h:ql l n v]:ql (a::l) (n+1) v:=⟨h.out⟩
instance (priority:=2000) {c0 a c2 c3 c4 c5 Tc b eh c9 v:Value} {l:List Value} {n:Nat} [h:ql l n v]:ql (c0::a::c2::c3::c4::c5::Tc::b::eh::c9::l) (n+10) v:=⟨h.out⟩
class yi (l:List Value) (n:Nat) (v:Value) (Ia:outParam (List Value)):Prop where out:Ac l n v Ia
instance {a v:Value} {l:List Value}:yi (a::l) 0 v (v::l):=⟨rfl⟩
instance {a v:Value} {l Ia:List Value} {n:Nat} [h:yi l n v Ia]:yi (a::l) (n+1) v (a::Ia):=⟨congrArg (a::·) h.out⟩
instance (priority:=2000) {c0 a c2 c3 c4 c5 Tc b eh c9 v:Value} {l Ia:List Value} {n:Nat} [h:yi l n v Ia]:yi (c0::a::c2::c3::c4::c5::Tc::b::eh::c9::l) (n+10) v (c0::a::c2::c3::c4::c5::Tc::b::eh::c9::Ia):=⟨congrArg (c0::a::c2::c3::c4::c5::Tc::b::eh::c9::·) h.out⟩
class ah (fr:List Value) (x:Operand) (v:outParam Value):Prop where out:wb fr x v
instance {fr:List Value} {n:Nat} {v:Value} [h:ql fr n v]:ah fr (.tmp n) v:=⟨aa h.out⟩
instance {fr:List Value} {v:Value}:ah fr (.const v) v:=⟨Ba⟩
class Oj (P:Program) (op:Op) (fr:List Value) (v:outParam Value):Prop where out:∀ dst ty pos after g,uf P (Oper.mk dst op ty pos after g) fr v
section
variable {P:Program} {fr:List Value} {x y c:Operand} {v:Value} {t ld:TypeId} {k:IntKind} {a b:Int}
instance [h:ah fr x v]:Oj P (.move x) fr v:=⟨fun _ _ _ _ _=>ks h.out⟩
instance [h:ah fr x v]:Oj P (.assign x) fr v:=⟨fun _ _ _ _ _=>wx h.out⟩
instance {a:Addr} [h:ah fr x (.pointer (some a))]:Oj P (.nilCheck x) fr (.pointer (some a)):=⟨fun _ _ _ _ _=>It h.out⟩
instance [c:ah fr x (.int k a)] [d:ah fr y (.int k b)]:Oj P (.binOp .eql t x y ld) fr (.bool (decide (a=b))):=⟨fun _ _ _ _ _=>YB c.out d.out⟩
instance [c:ah fr x (.int k a)] [d:ah fr y (.int k b)]:Oj P (.binOp .neq t x y ld) fr (.bool (decide (a≠b))):=⟨fun _ _ _ _ _=>HH c.out d.out⟩
instance [c:ah fr x (.int k a)] [d:ah fr y (.int k b)]:Oj P (.binOp .lss t x y ld) fr (.bool (decide (a<b))):=⟨fun _ _ _ _ _=>DH c.out d.out⟩
instance [c:ah fr x (.int k a)] [d:ah fr y (.int k b)]:Oj P (.binOp .leq t x y ld) fr (.bool (decide (a≤b))):=⟨fun _ _ _ _ _=>EH c.out d.out⟩
instance [c:ah fr x (.int k a)] [d:ah fr y (.int k b)]:Oj P (.binOp .gtr t x y ld) fr (.bool (decide (b<a))):=⟨fun _ _ _ _ _=>FH c.out d.out⟩
instance [c:ah fr x (.int k a)] [d:ah fr y (.int k b)]:Oj P (.binOp .geq t x y ld) fr (.bool (decide (b≤a))):=⟨fun _ _ _ _ _=>GH c.out d.out⟩
end
section
variable {P:Program} {Q:Exit→Act→World→Prop} {fr Ca:List Value} {ds:List Deferred} {w:World} {ops:Array Oper} {rest:List Oper} {d:Tmp} {op:Op} {ty:TypeId} {pos:String} {after:Array Edge} {v:Value}
theorem st [hu:Oj P op fr v] [a:yi fr d v Ca] (h:qf P ops Q rest Ca ds w):qf P ops Q (⟨some d,op,ty,pos,after,none⟩::rest) fr ds w:=wl (Ja (hu.out _ _ _ _ _) (ma a.out) h)
end
class zw (fr:List Value) (xs:List Operand) (vs:outParam (List Value)):Prop where out:Xm fr xs vs
instance {fr:List Value}:zw fr [] []:=⟨hb⟩
instance {fr:List Value} {x:Operand} {v:Value} {xs:List Operand} {vs:List Value} [h:ah fr x v] [k:zw fr xs vs]:zw fr (x::xs) (v::vs):=⟨sa h.out k.out⟩
section
variable {P:Program} {fr:List Value} {x y c:Operand} {v:Value} {t ld T:TypeId} {b:Nat} {o off i:Nat} {vs:List Value} {q:Bool}
instance [a:se P T i off] [h:ah fr x (.pointer (some ⟨b,o,none⟩))]:Oj P (.fieldAddr T x i) fr (.pointer (some ⟨b,o+off,none⟩)):=⟨fun _ _ _ _ _=>tu a h.out rfl⟩
instance [a:ah fr c (.bool true)] [h:ah fr x v]:Oj P (.pick c x y) fr v:=⟨fun _ _ _ _ _=>KF a.out h.out⟩
instance [a:ah fr c (.bool false)] [h:ah fr y v]:Oj P (.pick c x y) fr v:=⟨fun _ _ _ _ _=>LF a.out h.out⟩
instance [h:ah fr x (.bool q)]:Oj P (.unOp .not t x) fr (.bool (!q)):=⟨fun _ _ _ _ _=>IH h.out⟩
instance [h:ah fr x (.tuple ⟨vs⟩)] [k:ql vs i v]:Oj P (.extract x i) fr v:=⟨fun _ _ _ _ _=>wG h.out k.out⟩
end
section
variable {P:Program} {Q:Exit→Act→World→Prop} {fr Ca:List Value} {ds:List Deferred} {w:World} {ops:Array Oper} {rest:List Oper} {d:Tmp} {op:Op} {ty:TypeId} {pos:String} {after:Array Edge} {v:Value} {j e:Nat} {b re:Bool}
theorem Ta [hu:Oj P op fr v] [a:yi fr d v Ca] (c:(ops[j]?).bind (·.dst)=some e) [qa:ql fr e (.bool b)] (h:qf P ops Q rest Ca ds w):qf P ops Q (⟨some d,op,ty,pos,after,some (j,b)⟩::rest) fr ds w:=mc c qa.out (Ja (hu.out _ _ _ _ _) (ma a.out) h)
theorem oa [a:yi fr d undef Ca] (c:(ops[j]?).bind (·.dst)=some e) [qa:ql fr e (.bool re)] (f:(re == b)=false) (h:qf P ops Q rest Ca ds w):qf P ops Q (⟨some d,op,ty,pos,after,some (j,b)⟩::rest) fr ds w:=wn c qa.out f (ma a.out) h
theorem Ha {T:TypeId} {vd:List Value} {n m o q:Nat} {x:Operand} [a:Lc P T false vd n m] (b:w.cell? ⟨q,o,none⟩=some v) [c:ah fr x (.pointer (some ⟨q,o,none⟩))] [e:yi fr d v Ca] (h:qf P ops Q rest Ca ds w):qf P ops Q (⟨some d,.load T x,ty,pos,after,none⟩::rest) fr ds w:=wl (de a c.out b (ma e.out) h)
theorem Ae {T:TypeId} {vd cs:List Value} {n m o q:Nat} {x:Operand} [a:Lc P T true vd n m] (b:gj w q o cs) (c:cs.length=n) [e:ah fr x (.pointer (some ⟨q,o,none⟩))] [f:yi fr d (.agg ⟨cs⟩) Ca] (h:qf P ops Q rest Ca ds w):qf P ops Q (⟨some d,.load T x,ty,pos,after,none⟩::rest) fr ds w:=wl (Dn a e.out b c (ma f.out) h)
theorem Aa {dst:Option Tmp} {xs:List Operand} {tys:Array TypeId} {k:FuncId} {vs:List Value} {R:Value→World→Prop} [a:yc P k] [b:zw fr xs vs] (c:Sb P k vs w R) (h:∀ v w',R v w'→Kg fr dst v fun Ca=>qf P ops Q rest Ca ds w') :
  qf P ops Q (⟨dst,.call { callee:=.value (.func k),args:=⟨xs⟩,argTypes:=tys },ty,pos,after,none⟩::rest) fr ds w:=wl (td a nd b.out c h)
theorem Td {id:Nat} {l:List Oper} {μ:M} {J:World} {rs:List Wb} (a:ka μ J w rs) (h:∀ w',ka μ J w' rs→Oy P l.toArray Q (List.range l.length) fr ds w') (hm:P.follows .mixedOrders=true:=by kernel_rfl) (b:(List.range l.toArray.size).all (fun i=>(Pl l.toArray i).all fun j=>decide (j<i))=true:=by rfl):He P (.region id l.toArray true) Q fr ds w :=
 aC hm b fun w' c d e f=>h w' (a.drew c d e f)
theorem fa {v:Value} {K:List Value→Prop} [a:yi fr d v Ca] (h:K Ca):Kg fr (some d) v K:=pu (ma a.out) h
theorem la {nc:List Mon} {R Lf:List Nat} (i:Nat) (S:List Nat) (he:(decide R.Nodup && enabled ops R i && waits ops R S i && Ll ops S R i && S.contains i,R.erase i,ops[i]?)=(true,Lf,some ⟨some d,op,ty,pos,after,none⟩)) [a:Oj P op fr v] [b:yi fr d v Ca] (h:We P ops Q nc Lf Ca ds w) (c:fl Q:=by first | exact mh fun _ _ _ h=>h | exact mh fun _ _ _ h=>h.2 | exact mh fun _ _ _ h=>h.2.2):We P ops Q nc R fr ds w :=
 ze i S he (a.out _ _ _ _ _) b.out h c
end
section
variable {rs sc:List Wb} {xa a2 a3 a4 a5 Tb ic Db a9 od xc a12 r:Wb}
theorem Da:bj (xa::r::rs) 1 (r::xa::rs):=.s (bj.z)
theorem Eb:bj (xa::a2::r::rs) 2 (r::xa::a2::rs):=.s (.s (bj.z))
theorem bb:bj (xa::a2::a3::r::rs) 3 (r::xa::a2::a3::rs):=.s (.s (.s (bj.z)))
theorem ff:bj (xa::a2::a3::a4::r::rs) 4 (r::xa::a2::a3::a4::rs):=.s (.s (.s (.s (bj.z))))
theorem Bi:bj (xa::a2::a3::a4::a5::r::rs) 5 (r::xa::a2::a3::a4::a5::rs):=.s (.s (.s (.s (.s (bj.z)))))
theorem en:bj (xa::a2::a3::a4::a5::Tb::r::rs) 6 (r::xa::a2::a3::a4::a5::Tb::rs):=.s (.s (.s (.s (.s (.s (bj.z))))))
theorem gn:bj (xa::a2::a3::a4::a5::Tb::ic::r::rs) 7 (r::xa::a2::a3::a4::a5::Tb::ic::rs):=.s (.s (.s (.s (.s (.s (.s (bj.z)))))))
end
section
variable {P:Program} {Q:Exit→Act→World→Prop} {fr oh ph:List Value} {ds:List Deferred} {w:World} {ops:Array Oper} {l:List Oper} {R:List Nat} {nc:List Mon} {c:Operand} {x y:Code} {p:Prop} [Decidable p] {b:Bool} {d:Nat} {α:Type} {A B:Option α} {r:α}
theorem Za (h:(if p then A else B)=some r) [a:ah fr c (.bool (decide p))] (b:p→A=some r→He P x Q fr ds w) (d:¬ p→B=some r→He P y Q fr ds w):He P (.cond c x y) Q fr ds w:=uy a.out (fun q=>b q (ao q h)) (fun q=>d q (bo q h))
theorem ed (h:(if b=true then A else B)=some r) [a:ah fr c (.bool b)] (d:b=true→A=some r→He P x Q fr ds w) (e:¬ b=true→B=some r→He P y Q fr ds w):He P (.cond c x y) Q fr ds w:=uI a.out (fun q=>d q (ao q h)) (fun q=>e q (bo q h))
theorem pj (h:(if b=true then A else B)=some r) [a:ah fr c (.bool (!b))] (d:¬ b=true→B=some r→He P x Q fr ds w) (e:b=true→A=some r→He P y Q fr ds w):He P (.cond c x y) Q fr ds w:=OH a.out (fun q=>d q (bo q h)) (fun q=>e q (ao q h))
theorem me (d:Nat) (h:(if p then A else B)=some r) [qa:ql fr d (.bool (decide p))] [a:yi fr d (.bool true) oh] [b:yi fr d (.bool false) ph] (c:p→A=some r→qf P ops Q l oh ds w) (e:¬ p→B=some r→qf P ops Q l ph ds w):qf P ops Q l fr ds w:=tI qa.out a.out b.out (fun q=>c q (ao q h)) (fun q=>e q (bo q h))
theorem Hy (d:Nat) (h:(if b=true then A else B)=some r) [qa:ql fr d (.bool b)] [a:yi fr d (.bool true) oh] [c:yi fr d (.bool false) ph] (e:b=true→A=some r→qf P ops Q l oh ds w) (f:¬ b=true→B=some r→qf P ops Q l ph ds w):qf P ops Q l fr ds w:=vI qa.out a.out c.out (fun q=>e q (ao q h)) (fun q=>f q (bo q h))
theorem Gw (d:Nat) (h:(if b=true then A else B)=some r) [qa:ql fr d (.bool (!b))] [a:yi fr d (.bool true) oh] [c:yi fr d (.bool false) ph] (e:¬ b=true→B=some r→qf P ops Q l oh ds w) (f:b=true→A=some r→qf P ops Q l ph ds w):qf P ops Q l fr ds w:=PH qa.out a.out c.out (fun q=>e q (bo q h)) (fun q=>f q (ao q h))
theorem hJ (d:Nat) (h:(if p then A else B)=some r) [qa:ql fr d (.bool (decide p))] [a:yi fr d (.bool true) oh] [b:yi fr d (.bool false) ph] (c:p→A=some r→We P ops Q nc R oh ds w) (e:¬ p→B=some r→We P ops Q nc R ph ds w):We P ops Q nc R fr ds w:=xI qa.out a.out b.out (fun q=>c q (ao q h)) (fun q=>e q (bo q h))
theorem iJ (d:Nat) (h:(if b=true then A else B)=some r) [qa:ql fr d (.bool b)] [a:yi fr d (.bool true) oh] [c:yi fr d (.bool false) ph] (e:b=true→A=some r→We P ops Q nc R oh ds w) (f:¬ b=true→B=some r→We P ops Q nc R ph ds w):We P ops Q nc R fr ds w:=yC qa.out a.out c.out (fun q=>e q (ao q h)) (fun q=>f q (bo q h))
end
abbrev Cf (l:List Value):List Value:=undef::l
abbrev zd (l:List Value):List Value:=undef::undef::l
abbrev Ge (l:List Value):List Value:=undef::undef::undef::undef::undef::l
abbrev Wf (l:List Value):List Value:=undef::undef::undef::undef::undef::undef::undef::undef::undef::undef::l
abbrev Xe (l:List Value):List Value:=undef::undef::undef::undef::undef::undef::undef::undef::undef::undef::undef::undef::undef::undef::undef::undef::undef::undef::undef::undef::l
abbrev Ze (l:List Value):List Value:=undef::undef::undef::undef::undef::undef::undef::undef::undef::undef::undef::undef::undef::undef::undef::undef::undef::undef::undef::undef::undef::undef::undef::undef::undef::undef::undef::undef::undef::undef::undef::undef::undef::undef::undef::undef::undef::undef::undef::undef::undef::undef::undef::undef::undef::undef::undef::undef::undef::undef::l
end Go.Dc
namespace Go.Dc
theorem Ea {α : Type} {a b : α} (h : some a = some b) : a = b := Option.some.inj h
abbrev rg : Nat → Nat → List Nat := fun a b => List.range' a b
end Go.Dc
