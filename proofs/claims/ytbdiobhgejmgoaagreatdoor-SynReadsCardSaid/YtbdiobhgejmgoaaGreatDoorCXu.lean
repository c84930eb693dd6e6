/- Texts of Xu. -/
import Derived.Test.YtbdiobhgejmgoaaGreatDoorCXt
import Derived.Shelf.Strconv.ParseIntPublic10
import Derived.Lib.IndexMore
import Derived.Sort.Row
import Derived.Lib.AppendStr
import Derived.Lib.ItoaNum
import Derived.Lib.UnsafeStr
set_option linter.unusedSimpArgs false
set_option linter.unusedVariables false
set_option linter.unusedSectionVars false
namespace Go.Kc
open Go.cc Go.RowKit
section
variable {P:Program}{Q:Exit→Act→World→Prop}{K:List Value→List Deferred→World→Prop}{fr O:List Value}{ds:List Deferred}{w:World}
variable {dst:Option Tmp}{ty:TypeId}{pos:String}{after:Array Edge}{g:Option (Nat×Bool)}
variable {I:World}{rs U:List yb}{μ J:M}
variable {T:TypeId}
theorem kg.two {es:List MapEntry}{c:Nat}{k0 k1:List UInt8}{x0 x1:Int}(h:kg μ es c [(k0,x0),(k1,x1)]) :
  ∃ u j,es=[⟨S k0,.int .i64 x0,u⟩,⟨S k1,.int .i64 x1,j⟩]∧u<j∧j<c:=by
 obtain ⟨e,l,m⟩:=h
 match es,e,l,m with
 | [],e,_,_=>simp [Ze] at e
 | [a],e,_,_ =>
  rw [Ze] at e;obtain ⟨k,x,t,g,-,-,f⟩:=e;simp [Ze] at f g;simp [f] at g
 | [a,b],e,l,m =>
  rw [Ze] at e;obtain ⟨k,x,t,g,n,o,f⟩:=e;rw [Ze] at f;obtain ⟨w,y,z,p,q,r,s⟩:=f;subst p;simp only [List.cons.injEq,Prod.mk.injEq] at g;obtain ⟨⟨rfl,rfl⟩,⟨rfl,rfl⟩,-⟩:=g;obtain ⟨A,B,v⟩:=a;obtain ⟨C,bv,i⟩:=b;have o:B=.int .i64 x0:=o;have r:bv=.int .i64 x1:=r;have n:A=S k0:=n;have q:C=S k1:=q;subst n q o r;have D:v<i:=List.rel_of_pairwise_cons m (List.mem_singleton.2 rfl);have E:i<c:=l ⟨S k1,.int .i64 x1,i⟩ (by simp);exact ⟨v,i,rfl,D,E⟩
 | a::b::d::es,e,_,_ =>
  rw [Ze] at e;obtain ⟨k,x,t,g,-,-,f⟩:=e;rw [Ze] at f;obtain ⟨w,y,z,p,-,-,s⟩:=f;rw [Ze] at s;obtain ⟨G,H,K,F,-,-,-⟩:=s;subst F p;simp at g
theorem pr (w:World) (b:Nat) (o:Obj) (a:b<w.heap.size):zg (fun k=>k≠b) w { w with heap:=w.heap.setIfInBounds b o }∧({ w with heap:=w.heap.setIfInBounds b o }:World).heap[b]?=some o :=
 ⟨⟨rfl,rfl,rfl,by simp,fun j _ c=>by simp [Array.getElem?_setIfInBounds,Ne.symm c]⟩,by simp [a]⟩
theorem sz {x:Operand}{b m c j k a d:Nat}{a0 v0 f v1:Value}(p:ub fr x (.pointer (some ⟨b,0,none⟩))) (h:Ma μ I w rs) (l:Vb rs j (.Ti b m c [] c)) (hm:Vb rs k (.map m [⟨a0,v0,a⟩,⟨f,v1,d⟩] c)) (C:a<d) (q:d<c)
  (z:∀ w' U,jc rs j (.Ti b m c [a] c) U→Ma μ I w' U→Kg fr dst (.tuple ⟨[.bool true,a0,v0]⟩) fun O=>K O ds w')
  (A:∀ w' U,jc rs j (.Ti b m c [d] c) U→Ma μ I w' U→Kg fr dst (.tuple ⟨[.bool true,f,v1]⟩) fun O=>K O ds w') :
  Dc P (Oper.mk dst (.next x false) ty pos after g) fr ds w K Q:=by
 have i:w.heap[b]?=some (.mapIter (some m) c ⟨[]⟩ c):=h.get l;have r:w.heap[m]?=some (.map ⟨[⟨a0,v0,a⟩,⟨f,v1,d⟩]⟩ c):=h.get hm;have s:b<w.heap.size:=(Array.getElem?_eq_some_iff.1 i).1;have t:w.drew.heap[b]?=some (.mapIter (some m) c ⟨[]⟩ c):=i;have u:a<c:=by omega
 have v:¬ a ≥ c:=by omega
 have y:¬ d ≥ c:=by omega
 by_cases gb:(w.tape w.drawn (.mapNext 2)) % 2=0
 ·obtain ⟨n,o⟩:=pr w.drew b (.mapIter (some m) c ⟨[a]⟩ c) s;obtain ⟨O,e⟩:=xh fr dst (.tuple ⟨[.bool true,a0,v0]⟩);refine ug (w':={ w.drew with heap:=w.drew.heap.setIfInBounds b (.mapIter (some m) c ⟨[a]⟩ c) }) ?_ e (z _ _ rfl ((h.drew (w':=w.drew) rfl rfl rfl rfl).put (b:=b) l rfl rfl rfl o n) O e);simp [execOp,p ds,Instr.next,getObj,setObj,Sem.run,i,r,Result.andThen,u,q,v,y,choose,Question.forced,Question.cut,gb,t]
 ·have B:(w.tape w.drawn (.mapNext 2)) % 2=1:=by omega
  obtain ⟨n,o⟩:=pr w.drew b (.mapIter (some m) c ⟨[d]⟩ c) s;obtain ⟨O,e⟩:=xh fr dst (.tuple ⟨[.bool true,f,v1]⟩);refine ug (w':={ w.drew with heap:=w.drew.heap.setIfInBounds b (.mapIter (some m) c ⟨[d]⟩ c) }) ?_ e (A _ _ rfl ((h.drew (w':=w.drew) rfl rfl rfl rfl).put (b:=b) l rfl rfl rfl o n) O e);simp [execOp,p ds,Instr.next,getObj,setObj,Sem.run,i,r,Result.andThen,u,q,v,y,choose,Question.forced,Question.cut,B,t]
theorem tz {x:Operand}{b m c j k a d:Nat}{a0 v0 e v1:Value}(p:ub fr x (.pointer (some ⟨b,0,none⟩))) (f:Ma μ I w rs) (l:Vb rs j (.Ti b m c [a] c)) (hm:Vb rs k (.map m [⟨a0,v0,a⟩,⟨e,v1,d⟩] c)) (D:a<d) (q:d<c)
  (r:∀ w' U,jc rs j (.Ti b m c [a,d] c) U→Ma μ I w' U→Kg fr dst (.tuple ⟨[.bool true,e,v1]⟩) fun O=>K O ds w') :
  Dc P (Oper.mk dst (.next x false) ty pos after g) fr ds w K Q:=by
 have n:w.heap[b]?=some (.mapIter (some m) c ⟨[a]⟩ c):=f.get l;have s:w.heap[m]?=some (.map ⟨[⟨a0,v0,a⟩,⟨e,v1,d⟩]⟩ c):=f.get hm;have t:b<w.heap.size:=(Array.getElem?_eq_some_iff.1 n).1;have u:¬ a ≥ c:=by omega
 have v:¬ d ≥ c:=by omega
 have y:¬ ∀ (i:Nat) (x:i<2),c≤([⟨a0,v0,a⟩,⟨e,v1,d⟩]:List MapEntry)[i].born:=fun h=>by have:=h 0 (by decide);simp at this;omega
 have z:¬ d=a:=by omega
 have A:¬ a=d:=by omega
 obtain ⟨B,C⟩:=pr w b (.mapIter (some m) c ⟨[a,d]⟩ c) t;obtain ⟨O,o⟩:=xh fr dst (.tuple ⟨[.bool true,e,v1]⟩);refine ug (w':={ w with heap:=w.heap.setIfInBounds b (.mapIter (some m) c ⟨[a,d]⟩ c) }) ?_ o (r _ _ rfl (f.put (b:=b) l rfl rfl rfl C B) O o);simp [execOp,p ds,Instr.next,getObj,setObj,Sem.run,n,s,Result.andThen,q,u,v,z,A,y,choose,Question.forced]
theorem wy {x:Operand}{b m c j k d a:Nat}{a0 v0 e v1:Value}(p:ub fr x (.pointer (some ⟨b,0,none⟩))) (f:Ma μ I w rs) (l:Vb rs j (.Ti b m c [a] c)) (hm:Vb rs k (.map m [⟨a0,v0,d⟩,⟨e,v1,a⟩] c)) (D:d<a) (E:a<c)
  (q:∀ w' U,jc rs j (.Ti b m c [a,d] c) U→Ma μ I w' U→Kg fr dst (.tuple ⟨[.bool true,a0,v0]⟩) fun O=>K O ds w') :
  Dc P (Oper.mk dst (.next x false) ty pos after g) fr ds w K Q:=by
 have n:w.heap[b]?=some (.mapIter (some m) c ⟨[a]⟩ c):=f.get l;have r:w.heap[m]?=some (.map ⟨[⟨a0,v0,d⟩,⟨e,v1,a⟩]⟩ c):=f.get hm;have s:b<w.heap.size:=(Array.getElem?_eq_some_iff.1 n).1;have t:d<c:=by omega
 have u:¬ d ≥ c:=by omega
 have v:¬ a ≥ c:=by omega
 have y:¬ ∀ (i:Nat) (x:i<2),c≤([⟨a0,v0,d⟩,⟨e,v1,a⟩]:List MapEntry)[i].born:=fun h=>by have:=h 0 (by decide);simp at this;omega
 have z:¬ a=d:=by omega
 have A:¬ d=a:=by omega
 obtain ⟨B,C⟩:=pr w b (.mapIter (some m) c ⟨[a,d]⟩ c) s;obtain ⟨O,o⟩:=xh fr dst (.tuple ⟨[.bool true,a0,v0]⟩);refine ug (w':={ w with heap:=w.heap.setIfInBounds b (.mapIter (some m) c ⟨[a,d]⟩ c) }) ?_ o (q _ _ rfl (f.put (b:=b) l rfl rfl rfl C B) O o);simp [execOp,p ds,Instr.next,getObj,setObj,Sem.run,n,r,Result.andThen,t,u,v,z,A,y,choose,Question.forced]
theorem zv {x:Operand}{b m c j k d a p q:Nat}{a0 v0 e v1:Value}(l:ub fr x (.pointer (some ⟨b,0,none⟩))) (f:Ma μ I w rs) (n:Vb rs j (.Ti b m c [p,q] c)) (hm:Vb rs k (.map m [⟨a0,v0,d⟩,⟨e,v1,a⟩] c)) (A:d<a) (B:a<c) (o:p=d∧q=a∨p=a∧q=d)
  (gb:Rc fr dst (.tuple ⟨[.bool false]⟩) O) (h:K O ds w) :
  Dc P (Oper.mk dst (.next x false) ty pos after g) fr ds w K Q:=by
 have r:w.heap[b]?=some (.mapIter (some m) c ⟨[p,q]⟩ c):=f.get n;have s:w.heap[m]?=some (.map ⟨[⟨a0,v0,d⟩,⟨e,v1,a⟩]⟩ c):=f.get hm;have t:¬ d ≥ c:=by omega
 have u:¬ a ≥ c:=by omega
 have v:¬ ∀ (i:Nat) (x:i<2),c≤([⟨a0,v0,d⟩,⟨e,v1,a⟩]:List MapEntry)[i].born:=fun h=>by have:=h 0 (by decide);simp at this;omega
 have y:¬ a=d:=by omega
 have z:¬ d=a:=by omega
 refine ug (w':=w) ?_ gb h;rcases o with ⟨rfl,rfl⟩ | ⟨rfl,rfl⟩<;>simp [execOp,l ds,Instr.next,getObj,setObj,Sem.run,r,s,Result.andThen,t,u,y,z,v,choose,Question.forced]
theorem tr {x:Operand}{b m c j k a d:Nat}{a0 v0 f v1:Value}{seen:List Nat}{e:MapEntry}(l:ub fr x (.pointer (some ⟨b,0,none⟩))) (i:Ma μ I w rs) (n:Vb rs j (.Ti b m c seen c)) (hm:Vb rs k (.map m [⟨a0,v0,a⟩,⟨f,v1,d⟩] c)) (u:a<d)
  (o:seen.getLast?=some e.born) (he:e=⟨a0,v0,a⟩∨e=⟨f,v1,d⟩) (gb:Rc fr dst (.tuple ⟨[e.key,e.val]⟩) O) (h:K O ds w) :
  Dc P (Oper.mk dst (.entry x) ty pos after g) fr ds w K Q:=by
 have p:w.heap[b]?=some (.mapIter (some m) c ⟨seen⟩ c):=i.get n;have q:w.heap[m]?=some (.map ⟨[⟨a0,v0,a⟩,⟨f,v1,d⟩]⟩ c):=i.get hm;have r:¬ d=a:=by omega
 have s:¬ a=d:=by omega
 have t:(⟨seen⟩:Array Nat).back?=some e.born:=by rw [← o];simp [Array.back?,List.getLast?_eq_getElem?]
 refine ug (w':=w) ?_ gb h;rcases he with rfl | rfl<;>simp [execOp,l ds,Instr.entry,getObj,Sem.run,p,q,Result.andThen,t,r,s]
end
end Go.Kc
namespace Go.Kc
open Go.cc Go.RowKit
section
variable {P:Program}{Q:Exit→Act→World→Prop}{K:List Value→List Deferred→World→Prop}{fr O:List Value}{ds:List Deferred}{w:World}
variable {dst:Option Tmp}{ty:TypeId}{pos:String}{after:Array Edge}{g:Option (Nat×Bool)}
structure Av (P:Program) (f:FuncId) (args:List Value) (w:World) (R:Value→World→Prop):Prop where
 out:CallsD P f ⟨args⟩ .returning w fun e a w'=>a=.returning∧okV R e w'
theorem Dw {fn:Func}{R a:Value→World→Prop}{k:FuncId}{cap vs:List Value}(b:tc P k) (d:Av P k (vs++cap) w a) (h:∀ v w',a v w'→xp P fn R .ret (F fr ds) w') :
  xp P fn R .ret (F fr (⟨.fn (.func k) ⟨cap⟩,⟨vs⟩⟩::ds)) w:=by
 refine ⟨by simp,.func k,⟨cap⟩,k,⟨vs++cap⟩,rfl,?_,?_⟩
 ·have:=b.out ⟨vs++cap⟩ w;simp [invoke,this]
 ·refine d.out.mono fun e f w' he=>?_;obtain ⟨rfl,he⟩:=he;cases e with
  | returned v=>exact h v w' he
  | panicked c=>exact he.elim
  | outgrown=>exact he.elim
theorem oA {P:Program}{T:TypeId}{ms:Array (String×TypeId)}{v:Value}{b:Bool}(hu:P.underlying T=some (.interface ms)) (e:(v=.nilIface∧b=true)∨((∃ a c,v=.iface a c)∧b=false)):Wl P 1 T v .nilIface b:=⟨fun d w gb=>by
 cases d with
 | zero=>omega
 | succ d=>rcases e with ⟨rfl,rfl⟩ | ⟨⟨a,c,rfl⟩,rfl⟩ <;> simp [Op.equalIn,run_underlying hu]⟩
theorem Tv {x:Operand}{t e:TypeId}{v:Value}{b:Bool}{ms:Array (String×TypeId)}(hu:P.underlying t=some (.interface ms)) (f:ub fr x v) (d:(v=.nilIface∧b=true)∨((∃ a c,v=.iface a c)∧b=false)) (h:Rc fr dst (.bool b) O) (k:K O ds w) :
  Dc P (Oper.mk dst (.binOp .eql t x (.const .nilIface) e) ty pos after g) fr ds w K Q:=by
 refine xe ⟨fun ds w=>?_⟩ h k;have i:=f ds;have j:(F fr ds).eval (.const .nilIface)=.nilIface:=rfl;have l:=(oA hu d).out Op.maxDepth w (by decide);rcases d with ⟨rfl,rfl⟩ | ⟨⟨a,c,rfl⟩,rfl⟩<;>simp [execOp,i,j,eqGuard,binOp,Op.equal,l]
end
end Go.Kc
namespace Go.Kc
open Go.cc Go.RowKit
def NC (agg:Bool) (cs:List Value):Value:=if agg then .agg ⟨cs⟩ else cs.headD undef
structure Wr (P:Program) (e:M) (K:Nat) (f:List Value){α:Type}[nc α] (agg:Bool) (g:α→Option Bool):Prop where
 Lw:tc P K
 call:∀ {a:M}{I c:World}{rs:List yb}{x:α}{b:Bool}{cs:List Value},ra e a→nc.cs a cs x→g x=some b→Ma a I c rs→vc P K ([NC agg cs]++f) c (fun v w'=>∃ d,v=.bool b∧ra a d∧Ma d I w' rs)
theorem Wr.up {P:Program}{μ J:M}{K:Nat}{a:List Value}{α:Type}[nc α]{agg:Bool}{b:α→Option Bool}(h:Wr P μ K a agg b) (l:ra μ J):Wr P J K a agg b:=⟨h.Lw,fun c=>h.call (l.t c)⟩
end Go.Kc
namespace Go.Kc
open Go.cc Go.RowKit
instance:nc UInt8 where
 Mb:=1
 pos:=by decide
 cs _ l x:=l=[.int .u8 x.toNat]
 Di h:=by rw [h];rfl
 up _ h:=h
 Ei h:=by rw [h];rfl
def Hq (l:List UInt8):Option Int:=if l.length≤9223372036854775806 then (match Lib.parseIntB 64 l with | .ok v=>some v | _=>none) else none
def zq (l sub:List UInt8):Option Bool:=if l.length<4294967281 then some (Lib.contains l sub) else none
end Go.Kc
namespace Go.Kc
open Go.cc Go.RowKit
section
variable {μ Xi:M}{I w w':World}{rs:List yb}{T:TypeId}
def Iq (w:World) (Xi:M):Prop:=∀ w',Xi w'→w.heap.size≤w'.heap.size∧∀ k,k<w.heap.size→w'.heap[k]?=w.heap[k]?
theorem _root_.Go.cc.Sep.borrow (h:Ma μ I w rs):∃ Xi,ra μ Xi∧Ma Xi w w []∧Iq w Xi:=by
 refine ⟨fun w'=>μ w'∧(w.heap.size≤w'.heap.size∧∀ k,k<w.heap.size→w'.heap[k]?=w.heap[k]?),fun _ hw=>hw.1,Sep.start w _ _ ?_,fun _ hw=>hw.2⟩;intro w' b c;exact ⟨h.Ch w' b fun k a _=>c k a trivial,b,fun k a=>c k a trivial⟩
theorem _root_.Go.cc.Sep.back {c:M}(h:Ma μ I w rs) (d:Iq w Xi) (hle:ra Xi c) (b:Ma c w w' []):Ma μ I w' rs :=
 h.grow ⟨b.keeps.os,b.keeps.tape,b.keeps.output,b.keeps.size,fun k e _=>(d w' (hle _ b.a)).2 k e⟩
theorem Iq.holds {r:yb}(a:Iq w Xi) (h:r.holds w) (hw:Xi w'):r.holds w':=holds_of h fun b c=>(a w' hw).2 b (uu h c)
theorem _root_.Go.cc.Row.shape {v:Value}{Mb n:Nat}{xs:List Value}(h:Row w v T Mb n xs):∃ a c,v=.slice a n c:=by
 rcases h.2 with ⟨rfl,rfl⟩ | ⟨g,o,cap,cur,rfl,-⟩
 ·exact ⟨_,_,rfl⟩
 ·exact ⟨_,_,rfl⟩
theorem _root_.Go.cc.Row.rd {α:Type}[nc α]{a:Option Addr}{c:Nat}{cells:List Value}{l:List α}(m:Iq w Xi) (hle:ra μ Xi) (h:Row w (.slice a l.length c) T (nc.Mb α) l.length cells) (n:ib μ cells l):Va Xi a c l:=by
 have p:∀ w',Xi w'→Row w' (.slice a l.length c) T (nc.Mb α) l.length cells:=fun w' hw=>m.holds (r:=.row (.slice a l.length c) T (nc.Mb α) l.length cells) h hw;rcases h.2 with ⟨e,q⟩ | ⟨g,o,cap,cur,e,C,s,t,D,E⟩
 ·obtain rfl:=List.eq_nil_of_length_eq_zero q;obtain ⟨rfl,-,rfl⟩:=Value.slice.inj e;exact Va.nil
 ·obtain ⟨rfl,-,rfl⟩:=Value.slice.inj e;refine ⟨s,t,.inr ⟨g,o,rfl,fun i=>(cells.drop (i*nc.Mb α)).take (nc.Mb α),fun i x f=>⟨?_,nc.up hle (n.get f)⟩⟩⟩;intro v y j u d;have z:0<l.length:=by have:=(List.getElem?_eq_some_iff.1 f).1;omega
  obtain ⟨b,F,c,k,A⟩:=(p v y).zw z;simp at k;obtain ⟨⟨rfl,rfl⟩,rfl⟩:=k;have B:j<nc.Mb α:=by
   have:=(List.getElem?_eq_some_iff.1 d).1;simp at this;omega
  rw [List.getElem?_take_of_lt B,List.getElem?_drop] at d;have:=A _ u d;rw [← Nat.add_assoc] at this;exact this
end
section
variable {P:Program}{Q:Exit→Act→World→Prop}{K:List Value→List Deferred→World→Prop}{fr O:List Value}{ds:List Deferred}{w w':World}
variable {dst:Option Tmp}{ty:TypeId}{pos:String}{after:Array Edge}{g:Option (Nat×Bool)}{T:TypeId}{qe:Bool}{Uc:List Value}{rs U:List yb}{μ:M}{I:World}
end
end Go.Kc
namespace Go.Kc
open Go.cc Go.RowKit
section
variable {P:Program}{w:World}{T:TypeId}{Uc:List Value}{n:Nat}
end
section
variable {P:Program}{Q:Exit→Act→World→Prop}{K:List Value→List Deferred→World→Prop}{fr O:List Value}{ds:List Deferred}{w:World}
variable {dst:Option Tmp}{ty:TypeId}{pos:String}{after:Array Edge}{g:Option (Nat×Bool)}
variable {I:World}{rs U:List yb}{μ J:M}
variable {T:TypeId}
end
section
variable {P:Program}(w:World)
end
end Go.Kc
namespace Go.Kc
abbrev wd (l:List UInt8) (p:Nat):Nat:=(Utf8.decode ⟨⟨l⟩⟩ p).2
end Go.Kc
namespace Go.Kc
open Go.cc Go.RowKit
def oc {re α β : Type}(o : Option (Except re α)) (f : α → Option (Except re β)) : Option (Except re β):=
  match o with
  | none => none
  | some (.error e) => some (.error e)
  | some (.ok x) => f x
theorem Cc {re α β : Type}{o : Option (Except re α)}{f : α → Option (Except re β)}{r : Except re β}(h : oc o f = some r) : (∃ e, o = some (.error e) ∧ r = .error e) ∨ ∃ x, o = some (.ok x) ∧ f x = some r := by
  unfold oc at h;split at h
  · cases h
  · rename_i e;exact .inl ⟨e, rfl, (Option.some.inj h).symm⟩
  · rename_i x;exact .inr ⟨x, rfl, h⟩
def Qq {re α β : Type}(o : Option (Except re α)) (k : re → β) (f : α → Option β) : Option β :=
  match o with
  | none => none
  | some (.error e) => some (k e)
  | some (.ok x) => f x
theorem eu {re α β : Type}{o : Option (Except re α)}{k : re → β}{f : α → Option β}{r : β}(h : Qq o k f = some r) : (∃ e, o = some (.error e) ∧ r = k e) ∨ ∃ x, o = some (.ok x) ∧ f x = some r := by
  unfold Qq at h;split at h
  · cases h
  · rename_i e;exact .inl ⟨e, rfl, (Option.some.inj h).symm⟩
  · rename_i x;exact .inr ⟨x, rfl, h⟩
section
variable {P : Program}{Q : Exit → Act → World → Prop}{K : List Value → List Deferred → World → Prop}{fr O : List Value}{ds : List Deferred}{w : World}
variable {dst : Option Tmp}{ty : TypeId}{pos : String}{after : Array Edge}{g : Option (Nat × Bool)}
variable {I : World}{rs U : List yb}{μ J : M}{re α : Type}
def Jq (V : re → Value) (r : Except re α) (R : α → Value → World → Prop) (E : World → Prop) : Ending → World → Prop
  | .returned v, w => ∃ x, r = .ok x ∧ R x v w
  | .panicked a, w => ∃ e, r = .error e ∧ a = [{ v := V e, recovered := false }] ∧ E w
  | .outgrown, _ => False
structure sf (P : Program) (f : FuncId) (args : List Value) (w : World) (V : re → Value) (r : Except re α) (R : α → Value → World → Prop) (E : World → Prop) : Prop where
  out : Calls P f ⟨args⟩ w (Jq V r R E)
theorem sf.ok {f : FuncId}{args : List Value}{V : re → Value}{x : α}{R : α → Value → World → Prop}{E : World → Prop}(h : sf P f args w V (.ok x) R E) : vc P f args w (R x):=
  ⟨Calls.mono h.out fun e w' he => by
    cases e with
    | returned v => obtain ⟨y, a, h⟩ := he; obtain rfl := Except.ok.inj a; exact h
    | panicked c => obtain ⟨y, a, -⟩ := he; cases a
    | outgrown => exact he⟩
theorem xc {f : Operand}{xs : List Operand}{tys : Array TypeId}{k : FuncId}{vs : List Value}{V : re → Value}{e : re}{R : α → Value → World → Prop}{E : World → Prop}(b : tc P k) (d : ub fr f (.func (.func k) #[] #[])) (i : Wj fr xs vs)
    (j : sf P k vs w V (.error e) R E) (h : ∀ w', E w' → Q (.panic [{ v := V e, recovered := false }]) (F fr ds) w') : Dc P (Oper.mk dst (.call { callee := .value f, args := ⟨xs⟩, argTypes := tys }) ty pos after g) fr ds w K Q := by
  constructor;intro n o;have l := Ms (w := w) (dst := dst) (ty := ty) (pos := pos) (after := after) (g := g) (tys := tys) (ds := ds) (cap := []) b d i;unfold Oper.wp;rw [l, Oper.upon_enter, List.append_nil];exact Calls.mono j.out fun e w' he => by
    cases e with
    | returned v => obtain ⟨y, a, -⟩ := he; cases a
    | panicked c => obtain ⟨y, a, rfl, m⟩ := he; obtain rfl := Except.error.inj a; exact h w' m
    | outgrown => exact he.elim
def Aq (P : Program) (fn : Func) (V : re → Value) (r : Except re α) (R : α → Value → World → Prop) (E : World → Prop) : Exit → Act → World → Prop := bodyPost P fn (Jq V r R E)
def Qn (P : Program) (fn : Func) (V : re → Value) (r : Except re α) (R : α → Value → World → Prop) (E : World → Prop) : Exit → Act → World → Prop
  | .panic b, a, w => ∀ tmps, Leaves P fn tmps (Jq V r R E) a.defers (.panicking b) w
  | e, a, w => bodyPostD P fn (Jq V r R E) e a w
theorem kj {f : FuncId}{fn : Func}{c : Code}{args frm : List Value}{V : re → Value}{r : Except re α}{R : α → Value → World → Prop}{E : World → Prop}(a : P.funcs[f]? = some fn) (b : fn.body = some c)
    (d : args ++ List.replicate (fn.ntmps - args.length) undef = frm) (h : Yd P c (Aq P fn V r R E) frm [] w) : sf P f args w V r R E := by
  refine ⟨calls_of_wp a b ?_⟩;subst d;have : (⟨args⟩ : Array Value) ++ Array.replicate (fn.ntmps - args.length) undef = ⟨args ++ List.replicate (fn.ntmps - args.length) undef⟩ := by
    apply Array.ext';simp
  have h := h.out;simpa [F, Aq, this] using h
theorem ct {f : FuncId}{fn : Func}{c : Code}{args frm : List Value}{V : re → Value}{r : Except re α}{R : α → Value → World → Prop}{E : World → Prop}(d : P.funcs[f]? = some fn) (g : fn.body = some c)
    (i : args ++ List.replicate (fn.ntmps - args.length) undef = frm) (h : Yd P c (Qn P fn V r R E) frm [] w) : sf P f args w V r R E := by
  refine ⟨calls_of_wp_defers d g ?_⟩;subst i;have la : (⟨args⟩ : Array Value) ++ Array.replicate (fn.ntmps - args.length) undef = ⟨args ++ List.replicate (fn.ntmps - args.length) undef⟩ := by
    apply Array.ext';simp
  have h := wp_mono h.out (Q' := bodyPostD P fn (Jq V r R E)) fun e a w b => by
    cases e<;>first | exact b | exact b a.tmps
  simpa [F, la] using h
variable {fn : Func}{V : re → Value}{x : α}{r : Except re α}{R : α → Value → World → Prop}{E : World → Prop}
theorem yf {a : Act}(h : bn P fn (R x) .ret a w) : Aq P fn V (.ok x) R E .ret a w := by
  obtain ⟨b, v, c, d⟩ := h;exact ⟨b, v, c, x, rfl, d⟩
theorem oC {a : Act}(h : bn P fn (R x) .normal a w) : Aq P fn V (.ok x) R E .normal a w := by
  obtain ⟨b, v, c, d⟩ := h;exact ⟨b, v, c, x, rfl, d⟩
theorem cn (h : xp P fn (R x) .ret (F fr []) w) : Qn P fn V (.ok x) R E .ret (F fr []) w := by
  obtain ⟨v, a, b⟩ := h;exact ⟨v, a, x, rfl, b⟩
theorem yp {a : Value → World → Prop}{k : FuncId}{cap vs : List Value}(b : tc P k) (d : kq P k (vs ++ cap) w a) (h : ∀ v w', a v w' → Qn P fn V r R E .ret (F fr ds) w') :
    Qn P fn V r R E .ret (F fr (⟨.fn (.func k) ⟨cap⟩, ⟨vs⟩⟩ :: ds)) w := by
  refine ⟨by simp, .func k, ⟨cap⟩, k, ⟨vs ++ cap⟩, rfl, ?_, ?_⟩
  · have := b.out ⟨vs ++ cap⟩ w;simp [invoke, this]
  · refine (d.out .returning).mono fun e f w' he => ?_;obtain ⟨rfl, he⟩ := he;cases e with
    | returned v => exact h v w' he
    | panicked c => exact he.elim
    | outgrown => exact he.elim
theorem Qc {e : re}(h : E w) : Aq P fn V (.error e) R E (.panic [{ v := V e, recovered := false }]) (F fr []) w := ⟨rfl, e, rfl, rfl, h⟩
theorem Zh {e : re}(h : E w) : Qn P fn V (.error e) R E (.panic [{ v := V e, recovered := false }]) (F fr []) w := fun _ => ⟨e, rfl, rfl, h⟩
theorem en {v : Value}{a : Value → World → Prop}{k : FuncId}{cap vs : List Value}(b : tc P k) (d : kq P k (vs ++ cap) w a) (h : ∀ u w', a u w' → Qn P fn V r R E (.panic [{ v, recovered := false }]) (F fr ds) w') :
    Qn P fn V r R E (.panic [{ v, recovered := false }]) (F fr (⟨.fn (.func k) ⟨cap⟩, ⟨vs⟩⟩ :: ds)) w := fun tmps => by
  refine ⟨by simp, .func k, ⟨cap⟩, k, ⟨vs ++ cap⟩, rfl, ?_, ?_⟩
  · have := b.out ⟨vs ++ cap⟩ w;simp [invoke, this]
  · refine (d.out _).mono fun e f w' he => ?_;obtain ⟨rfl, he⟩ := he;cases e with
    | returned v => exact h v w' he tmps
    | panicked c => exact he.elim
    | outgrown => exact he.elim
def zp (P : Program) (fn : Func) (R : Value → World → Prop) : Exit → Act → World → Prop := bodyPostD P fn (okV R)
def Er (fn : Func) : List Nat := fn.results.toList.map fun r => match r with | .tmp t => t | .cell a _ => a
theorem yx {b : List Value}{d : Nat}{v : Value}{r : ResultVar}(h : (match r with | .tmp t => t | .cell a _ => a) ≠ d) : Kj ⟨b.set d v⟩ r = Kj ⟨b⟩ r := by
  cases r with
  | tmp t =>
    have : t ≠ d := h;simp [Kj, List.getElem?_set, Ne.symm this]
  | cell a t =>
    have : a ≠ d := h;simp [Kj, List.getElem?_set, Ne.symm this]
theorem gx {fn : Func}{b : List Value}{d : Nat}{v : Value}(h : (Er fn).contains d = false) : results fn ⟨b.set d v⟩ = results fn ⟨b⟩ := by
  rw [zs, zs];have key : ∀ l : List ResultVar, (∀ r ∈ l, (match r with | .tmp t => t | .cell a _ => a) ≠ d) → l.mapM (Kj ⟨b.set d v⟩) = l.mapM (Kj ⟨b⟩):= by
    intro l f
    induction l with
    | nil => rfl
    | cons r l g =>
      rw [List.mapM_cons, List.mapM_cons, yx (f r (by simp)), g fun r c => f r (by simp [c])]
  have i : ∀ r ∈ fn.results.toList, (match r with | .tmp t => t | .cell a _ => a) ≠ d := by
    intro r c e;have : d ∈ Er fn := List.mem_map.2 ⟨r, c, e⟩;simp [List.contains_iff_mem, this] at h
  rw [Array.mapM_eq_mapM_toList, Array.mapM_eq_mapM_toList, key _ i]
theorem Leaves.set {fn : Func}{g : List Value}{d : Nat}{v : Value}{R : Ending → World → Prop}(h : (Er fn).contains d = false) : ∀ (ds : List Deferred) (u : FrameMode) (w : World), Leaves P fn ⟨g.set d v⟩ R ds u w → Leaves P fn ⟨g⟩ R ds u w
  | [], .returning, w, a => by
    obtain ⟨x, b, c⟩ := a;exact ⟨x, by rw [← b, gx h], c⟩
  | [], .panicking i, w, a => a
  | [], .run, w, a => a
  | m :: ds, u, w, a => by
    obtain ⟨j, k, cap, f, args, b, c, l⟩ := a;refine ⟨j, k, cap, f, args, b, c, l.mono fun e n w' he => ?_⟩;cases e with
    | returned x => exact Leaves.set h ds _ _ he
    | panicked i => exact Leaves.set h ds _ _ he
    | outgrown => exact he
theorem gn {fn : Func}{R : Value → World → Prop}{a : List PanicEntry}{d : Nat}{v : Value}(gb : (Er fn).contains d = false) (h : zp P fn R (.panic a) (F (fr.set d v) ds) w) : zp P fn R (.panic a) (F fr ds) w := Leaves.set gb _ _ _ h
theorem uz {f : FuncId}{fn : Func}{c : Code}{args frm : List Value}{R : Value → World → Prop}(a : P.funcs[f]? = some fn) (b : fn.body = some c)
    (d : args ++ List.replicate (fn.ntmps - args.length) undef = frm) (h : Yd P c (zp P fn R) frm [] w) : vc P f args w R := by
  refine ⟨Calls.mono (calls_of_wp_defers (R := okV R) a b ?_) fun e w he => by cases e<;>exact he⟩;subst d;have la : (⟨args⟩ : Array Value) ++ Array.replicate (fn.ntmps - args.length) undef = ⟨args ++ List.replicate (fn.ntmps - args.length) undef⟩ := by
    apply Array.ext';simp
  have h := h.out;simpa [F, la, zp] using h
theorem gu {fn : Func}{R : Value → World → Prop}{a : Act}(h : xp P fn R .ret a w) : zp P fn R .ret a w := h
structure fv (P : Program) (f : FuncId) (args : List Value) (a : List PanicEntry) (w : World) (R : World → Prop) : Prop where
  out : CallsD P f ⟨args⟩ (.panicking a) w fun e b w' => settle b = .returning ∧ okV (fun _ w' => R w') e w'
theorem Rw {fn : Func}{R : Value → World → Prop}{v : Value}{a : World → Prop}{k : FuncId}{cap vs : List Value}(b : tc P k) (d : fv P k (vs ++ cap) [{ v, recovered := false }] w a) (h : ∀ w', a w' → xp P fn R .ret (F fr ds) w') :
    zp P fn R (.panic [{ v, recovered := false }]) (F fr (⟨.fn (.func k) ⟨cap⟩, ⟨vs⟩⟩ :: ds)) w := by
  refine ⟨by simp, .func k, ⟨cap⟩, k, ⟨vs ++ cap⟩, rfl, ?_, ?_⟩
  · have := b.out ⟨vs ++ cap⟩ w;simp [invoke, this]
  · refine d.out.mono fun e f w' he => ?_;obtain ⟨hu, he⟩ := he;cases e with
    | returned v =>
      show Leaves P fn ⟨fr⟩ (okV R) ds (settle f) w';rw [hu];exact h w' he
    | panicked c => exact he.elim
    | outgrown => exact he.elim
theorem _root_.Go.cc.Sep.Ic {a : yb}{l : List yb}(c : Ma μ I w (a :: (l ++ rs))) : Ma μ I w (a :: rs):= by
  have d : (a :: rs).Sublist (a :: (l ++ rs)):= (List.sublist_append_right _ _).cons_cons a;refine ⟨c.keeps, fun r f => c.all r (d.subset f), (d.filterMap _).nodup c.qh, fun b g => c.new b ((d.filterMap _).subset g), ?_⟩;refine c.Ch.mono fun k _ e => ⟨e.1, fun hm => e.2 ((d.filterMap yb.block).subset hm)⟩
theorem _root_.Go.cc.Sep.Uv {a b : yb}{l : List yb}(c : Ma μ I w (a :: b :: (l ++ rs))) : Ma μ I w (a :: b :: rs):= by
  have d : (a :: b :: rs).Sublist (a :: b :: (l ++ rs)):= ((List.sublist_append_right _ _).cons_cons b).cons_cons a;refine ⟨c.keeps, fun r f => c.all r (d.subset f), (d.filterMap _).nodup c.qh, fun b g => c.new b ((d.filterMap _).subset g), ?_⟩;refine c.Ch.mono fun k _ e => ⟨e.1, fun hm => e.2 ((d.filterMap yb.block).subset hm)⟩
def wg (μ : M) (I : World) (b : Nat) (T : TypeId) (rs : List yb) : World → Prop := fun w => ∃ (J : M) (v0 v1 : Value) (i : Int), ra μ J ∧ Ma J I w (.na b T [v0, v1, .int .i64 i]:: rs)
theorem _root_.Go.cc.Wl.up {m : Nat}{T : TypeId}{v a : Value}{b : Bool}(h : Wl P m T v a b) : Wl P (m + 1) T v a b := ⟨fun d w gb => h.out d w (by omega)⟩
end
end Go.Kc
namespace Go.Kc
theorem mb {α : Type}{a b : α}(h : some a = some b) : a = b := Option.some.inj h
abbrev rg : Nat → Nat → List Nat := fun a b => List.range' a b
end Go.Kc
