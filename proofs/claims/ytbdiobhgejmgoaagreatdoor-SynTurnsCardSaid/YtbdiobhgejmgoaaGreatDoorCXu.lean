/- Texts of Xu. -/
import Derived.Test.YtbdiobhgejmgoaaGreatDoorCXt
import Derived.Laws.IdiomCopy
import Derived.Shelf.Strconv.ParseIntPublic10
import Derived.Lib.IndexMore
import Derived.Sort.Row
import Derived.Lib.AppendStr
import Derived.Lib.ItoaNum
import Derived.Lib.UnsafeStr
set_option linter.unusedSimpArgs false
set_option linter.unusedVariables false
set_option linter.unusedSectionVars false
namespace Go.ec
open Go.Sb Go.RowKit
section
variable {P:Program}{Q:Exit→Act→World→Prop}{K:List Value→List Deferred→World→Prop}{fr Va:List Value}{ds:List Deferred}{w:World}
variable {dst:Option Tmp}{ty:TypeId}{pos:String}{after:Array Edge}{g:Option (Nat×Bool)}
variable {J:World}{rs mc:List wb}{μ U:M}
variable {T:TypeId}
theorem qf.two {es:List MapEntry}{c:Nat}{k0 k1:List UInt8}{x0 x1:Int}(h:qf μ es c [(k0,x0),(k1,x1)]) :
  ∃ u j,es=[⟨S k0,.int .i64 x0,u⟩,⟨S k1,.int .i64 x1,j⟩]∧u<j∧j<c:=by
 obtain ⟨e,l,m⟩:=h
 match es,e,l,m with
 | [],e,_,_=>simp [fe] at e
 | [a],e,_,_ =>
  rw [fe] at e;obtain ⟨k,x,t,g,-,-,f⟩:=e;simp [fe] at f g;simp [f] at g
 | [a,b],e,l,m =>
  rw [fe] at e;obtain ⟨k,x,t,g,n,o,f⟩:=e;rw [fe] at f;obtain ⟨w,y,z,p,q,r,s⟩:=f;subst p;simp only [List.cons.injEq,Prod.mk.injEq] at g;obtain ⟨⟨rfl,rfl⟩,⟨rfl,rfl⟩,-⟩:=g;obtain ⟨A,B,v⟩:=a;obtain ⟨C,bv,i⟩:=b;have o:B=.int .i64 x0:=o;have r:bv=.int .i64 x1:=r;have n:A=S k0:=n;have q:C=S k1:=q;subst n q o r;have D:v<i:=List.rel_of_pairwise_cons m (List.mem_singleton.2 rfl);have E:i<c:=l ⟨S k1,.int .i64 x1,i⟩ (by simp);exact ⟨v,i,rfl,D,E⟩
 | a::b::d::es,e,_,_ =>
  rw [fe] at e;obtain ⟨k,x,t,g,-,-,f⟩:=e;rw [fe] at f;obtain ⟨w,y,z,p,-,-,s⟩:=f;rw [fe] at s;obtain ⟨G,H,K,F,-,-,-⟩:=s;subst F p;simp at g
theorem Zp (w:World) (b:Nat) (o:Obj) (a:b<w.heap.size):Qg (fun k=>k≠b) w { w with heap:=w.heap.setIfInBounds b o }∧({ w with heap:=w.heap.setIfInBounds b o }:World).heap[b]?=some o :=
 ⟨⟨rfl,rfl,rfl,by simp,fun j _ c=>by simp [Array.getElem?_setIfInBounds,Ne.symm c]⟩,by simp [a]⟩
theorem IC {x:Operand}{b m c j k a d:Nat}{a0 v0 f v1:Value}(p:qb fr x (.pointer (some ⟨b,0,none⟩))) (h:Na μ J w rs) (l:Xb rs j (.Xh b m c [] c)) (hm:Xb rs k (.map m [⟨a0,v0,a⟩,⟨f,v1,d⟩] c)) (C:a<d) (q:d<c)
  (z:∀ w' mc,hc rs j (.Xh b m c [a] c) mc→Na μ J w' mc→Jg fr dst (.tuple ⟨[.bool true,a0,v0]⟩) fun Va=>K Va ds w')
  (A:∀ w' mc,hc rs j (.Xh b m c [d] c) mc→Na μ J w' mc→Jg fr dst (.tuple ⟨[.bool true,f,v1]⟩) fun Va=>K Va ds w') :
  xc P (Oper.mk dst (.next x false) ty pos after g) fr ds w K Q:=by
 have i:w.heap[b]?=some (.mapIter (some m) c ⟨[]⟩ c):=h.get l;have r:w.heap[m]?=some (.map ⟨[⟨a0,v0,a⟩,⟨f,v1,d⟩]⟩ c):=h.get hm;have s:b<w.heap.size:=(Array.getElem?_eq_some_iff.1 i).1;have t:w.drew.heap[b]?=some (.mapIter (some m) c ⟨[]⟩ c):=i;have u:a<c:=by omega
 have v:¬ a ≥ c:=by omega
 have y:¬ d ≥ c:=by omega
 by_cases Ua:(w.tape w.drawn (.mapNext 2)) % 2=0
 ·obtain ⟨n,o⟩:=Zp w.drew b (.mapIter (some m) c ⟨[a]⟩ c) s;obtain ⟨Va,e⟩:=Fg fr dst (.tuple ⟨[.bool true,a0,v0]⟩);refine Pe (w':={ w.drew with heap:=w.drew.heap.setIfInBounds b (.mapIter (some m) c ⟨[a]⟩ c) }) ?_ e (z _ _ rfl ((h.drew (w':=w.drew) rfl rfl rfl rfl).put (b:=b) l rfl rfl rfl o n) Va e);simp [execOp,p ds,Instr.next,getObj,setObj,Sem.run,i,r,Result.andThen,u,q,v,y,choose,Question.forced,Question.cut,Ua,t]
 ·have B:(w.tape w.drawn (.mapNext 2)) % 2=1:=by omega
  obtain ⟨n,o⟩:=Zp w.drew b (.mapIter (some m) c ⟨[d]⟩ c) s;obtain ⟨Va,e⟩:=Fg fr dst (.tuple ⟨[.bool true,f,v1]⟩);refine Pe (w':={ w.drew with heap:=w.drew.heap.setIfInBounds b (.mapIter (some m) c ⟨[d]⟩ c) }) ?_ e (A _ _ rfl ((h.drew (w':=w.drew) rfl rfl rfl rfl).put (b:=b) l rfl rfl rfl o n) Va e);simp [execOp,p ds,Instr.next,getObj,setObj,Sem.run,i,r,Result.andThen,u,q,v,y,choose,Question.forced,Question.cut,B,t]
theorem JC {x:Operand}{b m c j k a d:Nat}{a0 v0 e v1:Value}(p:qb fr x (.pointer (some ⟨b,0,none⟩))) (f:Na μ J w rs) (l:Xb rs j (.Xh b m c [a] c)) (hm:Xb rs k (.map m [⟨a0,v0,a⟩,⟨e,v1,d⟩] c)) (D:a<d) (q:d<c)
  (r:∀ w' mc,hc rs j (.Xh b m c [a,d] c) mc→Na μ J w' mc→Jg fr dst (.tuple ⟨[.bool true,e,v1]⟩) fun Va=>K Va ds w') :
  xc P (Oper.mk dst (.next x false) ty pos after g) fr ds w K Q:=by
 have n:w.heap[b]?=some (.mapIter (some m) c ⟨[a]⟩ c):=f.get l;have s:w.heap[m]?=some (.map ⟨[⟨a0,v0,a⟩,⟨e,v1,d⟩]⟩ c):=f.get hm;have t:b<w.heap.size:=(Array.getElem?_eq_some_iff.1 n).1;have u:¬ a ≥ c:=by omega
 have v:¬ d ≥ c:=by omega
 have y:¬ ∀ (i:Nat) (x:i<2),c≤([⟨a0,v0,a⟩,⟨e,v1,d⟩]:List MapEntry)[i].born:=fun h=>by have:=h 0 (by decide);simp at this;omega
 have z:¬ d=a:=by omega
 have A:¬ a=d:=by omega
 obtain ⟨B,C⟩:=Zp w b (.mapIter (some m) c ⟨[a,d]⟩ c) t;obtain ⟨Va,o⟩:=Fg fr dst (.tuple ⟨[.bool true,e,v1]⟩);refine Pe (w':={ w with heap:=w.heap.setIfInBounds b (.mapIter (some m) c ⟨[a,d]⟩ c) }) ?_ o (r _ _ rfl (f.put (b:=b) l rfl rfl rfl C B) Va o);simp [execOp,p ds,Instr.next,getObj,setObj,Sem.run,n,s,Result.andThen,q,u,v,z,A,y,choose,Question.forced]
theorem IB {x:Operand}{b m c j k d a:Nat}{a0 v0 e v1:Value}(p:qb fr x (.pointer (some ⟨b,0,none⟩))) (f:Na μ J w rs) (l:Xb rs j (.Xh b m c [a] c)) (hm:Xb rs k (.map m [⟨a0,v0,d⟩,⟨e,v1,a⟩] c)) (D:d<a) (E:a<c)
  (q:∀ w' mc,hc rs j (.Xh b m c [a,d] c) mc→Na μ J w' mc→Jg fr dst (.tuple ⟨[.bool true,a0,v0]⟩) fun Va=>K Va ds w') :
  xc P (Oper.mk dst (.next x false) ty pos after g) fr ds w K Q:=by
 have n:w.heap[b]?=some (.mapIter (some m) c ⟨[a]⟩ c):=f.get l;have r:w.heap[m]?=some (.map ⟨[⟨a0,v0,d⟩,⟨e,v1,a⟩]⟩ c):=f.get hm;have s:b<w.heap.size:=(Array.getElem?_eq_some_iff.1 n).1;have t:d<c:=by omega
 have u:¬ d ≥ c:=by omega
 have v:¬ a ≥ c:=by omega
 have y:¬ ∀ (i:Nat) (x:i<2),c≤([⟨a0,v0,d⟩,⟨e,v1,a⟩]:List MapEntry)[i].born:=fun h=>by have:=h 0 (by decide);simp at this;omega
 have z:¬ a=d:=by omega
 have A:¬ d=a:=by omega
 obtain ⟨B,C⟩:=Zp w b (.mapIter (some m) c ⟨[a,d]⟩ c) s;obtain ⟨Va,o⟩:=Fg fr dst (.tuple ⟨[.bool true,a0,v0]⟩);refine Pe (w':={ w with heap:=w.heap.setIfInBounds b (.mapIter (some m) c ⟨[a,d]⟩ c) }) ?_ o (q _ _ rfl (f.put (b:=b) l rfl rfl rfl C B) Va o);simp [execOp,p ds,Instr.next,getObj,setObj,Sem.run,n,r,Result.andThen,t,u,v,z,A,y,choose,Question.forced]
theorem Ox {x:Operand}{b m c j k d a p q:Nat}{a0 v0 e v1:Value}(l:qb fr x (.pointer (some ⟨b,0,none⟩))) (f:Na μ J w rs) (n:Xb rs j (.Xh b m c [p,q] c)) (hm:Xb rs k (.map m [⟨a0,v0,d⟩,⟨e,v1,a⟩] c)) (A:d<a) (B:a<c) (o:p=d∧q=a∨p=a∧q=d)
  (Ua:Wc fr dst (.tuple ⟨[.bool false]⟩) Va) (h:K Va ds w) :
  xc P (Oper.mk dst (.next x false) ty pos after g) fr ds w K Q:=by
 have r:w.heap[b]?=some (.mapIter (some m) c ⟨[p,q]⟩ c):=f.get n;have s:w.heap[m]?=some (.map ⟨[⟨a0,v0,d⟩,⟨e,v1,a⟩]⟩ c):=f.get hm;have t:¬ d ≥ c:=by omega
 have u:¬ a ≥ c:=by omega
 have v:¬ ∀ (i:Nat) (x:i<2),c≤([⟨a0,v0,d⟩,⟨e,v1,a⟩]:List MapEntry)[i].born:=fun h=>by have:=h 0 (by decide);simp at this;omega
 have y:¬ a=d:=by omega
 have z:¬ d=a:=by omega
 refine Pe (w':=w) ?_ Ua h;rcases o with ⟨rfl,rfl⟩ | ⟨rfl,rfl⟩<;>simp [execOp,l ds,Instr.next,getObj,setObj,Sem.run,r,s,Result.andThen,t,u,y,z,v,choose,Question.forced]
theorem kt {x:Operand}{b m c j k a d:Nat}{a0 v0 f v1:Value}{seen:List Nat}{e:MapEntry}(l:qb fr x (.pointer (some ⟨b,0,none⟩))) (i:Na μ J w rs) (n:Xb rs j (.Xh b m c seen c)) (hm:Xb rs k (.map m [⟨a0,v0,a⟩,⟨f,v1,d⟩] c)) (u:a<d)
  (o:seen.getLast?=some e.born) (he:e=⟨a0,v0,a⟩∨e=⟨f,v1,d⟩) (Ua:Wc fr dst (.tuple ⟨[e.key,e.val]⟩) Va) (h:K Va ds w) :
  xc P (Oper.mk dst (.entry x) ty pos after g) fr ds w K Q:=by
 have p:w.heap[b]?=some (.mapIter (some m) c ⟨seen⟩ c):=i.get n;have q:w.heap[m]?=some (.map ⟨[⟨a0,v0,a⟩,⟨f,v1,d⟩]⟩ c):=i.get hm;have r:¬ d=a:=by omega
 have s:¬ a=d:=by omega
 have t:(⟨seen⟩:Array Nat).back?=some e.born:=by rw [← o];simp [Array.back?,List.getLast?_eq_getElem?]
 refine Pe (w':=w) ?_ Ua h;rcases he with rfl | rfl<;>simp [execOp,l ds,Instr.entry,getObj,Sem.run,p,q,Result.andThen,t,r,s]
end
end Go.ec
namespace Go.ec
open Go.Sb Go.RowKit
section
variable {P:Program}{Q:Exit→Act→World→Prop}{K:List Value→List Deferred→World→Prop}{fr Va:List Value}{ds:List Deferred}{w:World}
variable {dst:Option Tmp}{ty:TypeId}{pos:String}{after:Array Edge}{g:Option (Nat×Bool)}
structure Px (P:Program) (f:FuncId) (args:List Value) (w:World) (R:Value→World→Prop):Prop where
 out:CallsD P f ⟨args⟩ .returning w fun e a w'=>a=.returning∧okV R e w'
theorem Zy {fn:Func}{R a:Value→World→Prop}{k:FuncId}{cap vs:List Value}(b:Ic P k) (d:Px P k (vs++cap) w a) (h:∀ v w',a v w'→Ol P fn R .ret (F fr ds) w') :
  Ol P fn R .ret (F fr (⟨.fn (.func k) ⟨cap⟩,⟨vs⟩⟩::ds)) w:=by
 refine ⟨by simp,.func k,⟨cap⟩,k,⟨vs++cap⟩,rfl,?_,?_⟩
 ·have:=b.out ⟨vs++cap⟩ w;simp [invoke,this]
 ·refine d.out.mono fun e f w' he=>?_;obtain ⟨rfl,he⟩:=he;cases e with
  | returned v=>exact h v w' he
  | panicked c=>exact he.elim
  | outgrown=>exact he.elim
theorem KD {P:Program}{T:TypeId}{ms:Array (String×TypeId)}{v:Value}{b:Bool}(hu:P.underlying T=some (.interface ms)) (e:(v=.nilIface∧b=true)∨((∃ a c,v=.iface a c)∧b=false)):Pm P 1 T v .nilIface b:=⟨fun d w Ua=>by
 cases d with
 | zero=>omega
 | succ d=>rcases e with ⟨rfl,rfl⟩ | ⟨⟨a,c,rfl⟩,rfl⟩ <;> simp [Op.equalIn,run_underlying hu]⟩
theorem wy {x:Operand}{t e:TypeId}{v:Value}{b:Bool}{ms:Array (String×TypeId)}(hu:P.underlying t=some (.interface ms)) (f:qb fr x v) (d:(v=.nilIface∧b=true)∨((∃ a c,v=.iface a c)∧b=false)) (h:Wc fr dst (.bool b) Va) (k:K Va ds w) :
  xc P (Oper.mk dst (.binOp .eql t x (.const .nilIface) e) ty pos after g) fr ds w K Q:=by
 refine pf ⟨fun ds w=>?_⟩ h k;have i:=f ds;have j:(F fr ds).eval (.const .nilIface)=.nilIface:=rfl;have l:=(KD hu d).out Op.maxDepth w (by decide);rcases d with ⟨rfl,rfl⟩ | ⟨⟨a,c,rfl⟩,rfl⟩<;>simp [execOp,i,j,eqGuard,binOp,Op.equal,l]
end
end Go.ec
namespace Go.ec
open Go.Sb Go.RowKit
def AG (agg:Bool) (cs:List Value):Value:=if agg then .agg ⟨cs⟩ else cs.headD undef
structure Ut (P:Program) (I:M) (K:Nat) (e:List Value){α:Type}[Ob α] (agg:Bool) (f:α→Option Bool):Prop where
 mz:Ic P K
 call:∀ {a:M}{J c:World}{rs:List wb}{x:α}{b:Bool}{cs:List Value},ra I a→Ob.cs a cs x→f x=some b→Na a J c rs→Pc P K ([AG agg cs]++e) c (fun v w'=>∃ d,v=.bool b∧ra a d∧Na d J w' rs)
theorem Ut.up {P:Program}{μ U:M}{K:Nat}{a:List Value}{α:Type}[Ob α]{agg:Bool}{b:α→Option Bool}(h:Ut P μ K a agg b) (l:ra μ U):Ut P U K a agg b:=⟨h.mz,fun c=>h.call (l.t c)⟩
end Go.ec
namespace Go.ec
open Go.Sb Go.RowKit
section
variable {P:Program}{Q:Exit→Act→World→Prop}{K:List Value→List Deferred→World→Prop}{fr Va:List Value}{ds:List Deferred}{w w':World}
variable {dst:Option Tmp}{ty:TypeId}{pos:String}{after:Array Edge}{g:Option (Nat×Bool)}
variable {J:World}{rs mc:List wb}{μ U:M}
variable {T:TypeId}{d:TypeDesc}{xe:Bool}{Sc:List Value}{n m:Nat}
theorem rF {t e:TypeId}(hu:P.underlying t=some (.pointer e)):Pm P 1 t (.pointer none) (.pointer none) true:=⟨fun d w Ua=>by
 cases d with
 | zero=>omega
 | succ d=>simp [Op.equalIn,run_underlying hu]⟩
theorem TA {x:Operand}{t a e:TypeId}(hu:P.underlying t=some (.pointer e)) (b:qb fr x (.pointer none)):we P (Oper.mk dst (.binOp .eql t x (.const (.pointer none)) a) ty pos after g) fr (.bool true):=⟨fun ds w=>by
 have c:=b ds;have d:(F fr ds).eval (.const (.pointer none))=.pointer none:=rfl;have f:=(rF hu).out Op.maxDepth w (by decide);simp [execOp,c,d,eqGuard,binOp,Op.equal,f]⟩
theorem UA {x:Operand}{t a e:TypeId}(hu:P.underlying t=some (.pointer e)) (b:qb fr x (.pointer none)) (c:Wc fr dst (.bool true) Va) (h:K Va ds w):xc P (Oper.mk dst (.binOp .eql t x (.const (.pointer none)) a) ty pos after g) fr ds w K Q:=pf (TA hu b) c h
end
end Go.ec
namespace Go.ec
open Go.Sb Go.RowKit
instance:Ob UInt8 where
 Jb:=1
 pos:=by decide
 cs _ l x:=l=[.int .u8 x.toNat]
 jk h:=by rw [h];rfl
 up _ h:=h
 Fj h:=by rw [h];rfl
def Sl (l:List UInt8):Option Int:=if l.length≤9223372036854775806 then (match Lib.parseIntB 64 l with | .ok v=>some v | _=>none) else none
def vq (l sub:List UInt8):Option Bool:=if l.length<4294967281 then some (Lib.contains l sub) else none
end Go.ec
namespace Go.ec
open Go.Sb Go.RowKit
section
variable {μ Gj:M}{J w w':World}{rs:List wb}{T:TypeId}
theorem _root_.Go.Sb.Row.shape {v:Value}{Jb n:Nat}{xs:List Value}(h:Row w v T Jb n xs):∃ a c,v=.slice a n c:=by
 rcases h.2 with ⟨rfl,rfl⟩ | ⟨g,o,cap,cur,rfl,-⟩
 ·exact ⟨_,_,rfl⟩
 ·exact ⟨_,_,rfl⟩
def Zj {α:Type}(B:Nat) (l:List α) (xs:List α):Option (List α):=if l.length+xs.length≤B then some (l++xs) else none
theorem Qx {α:Type}{B:Nat}{a b c:List α}(h:Zj B a b=some c):c=a++b∧a.length+b.length≤B:=by
 unfold Zj at h;split at h
 ·rename_i k;exact ⟨(Option.some.inj h).symm,k⟩
 ·cases h
theorem Sa.Zj {α:Type}[Ob α]{B:Nat}{cells news:List Value}{l xs a:List α}(h:Sa μ cells l) (k:Sa μ news xs) (g:Zj B l xs=some a):Sa μ (cells++news) a:=by
 obtain ⟨rfl,-⟩:=Qx g;exact Sa.cat k h
end
section
variable {P:Program}{Q:Exit→Act→World→Prop}{K:List Value→List Deferred→World→Prop}{fr Va:List Value}{ds:List Deferred}{w w':World}
variable {dst:Option Tmp}{ty:TypeId}{pos:String}{after:Array Edge}{g:Option (Nat×Bool)}{T:TypeId}{xe:Bool}{Sc:List Value}{rs mc:List wb}{μ:M}{J:World}
theorem nt {α:Type}[Ob α]{B:Nat}{t:TypeId}{s x:Operand}{v:Value}{bytes k b e c:Nat}{cells news:List Value}{l ys f:List α}(o:P.underlying t=some (.slice T)) (p:ad P T xe Sc (Ob.Jb α) bytes) (q:Sc.length=Ob.Jb α)
  (r:qb fr s v) (y:qb fr x (.slice (some ⟨b,0,none⟩) e c)) (i:Na μ J w rs) (m:Xb rs k (.row v T (Ob.Jb α) l.length cells)) (z:uj w b 0 news) (n:Sa μ news ys) (hm:ys.length=e) (qo:Zj B l ys=some f) (A:B*bytes≤140737488355328∧B≤9223372036854775807)
  (h:∀ d w' mc,hc rs k (.row d T (Ob.Jb α) f.length (cells++news)) mc→Na μ J w' mc→Jg fr dst d fun Va=>K Va ds w') :
  xc P (Oper.mk dst (.call { callee:=.builtin .append,args:=#[s,x],argTypes:=#[t,t] }) ty pos after g) fr ds w K Q:=by
 obtain ⟨rfl,C⟩:=Qx qo;subst hm;have D:(l.length+ys.length)*bytes≤140737488355328:=Nat.le_trans (Nat.mul_le_mul_right _ C) A.1;obtain ⟨d,w',E,F,G,H⟩:=gw (P:=P) (ty:=ty) o p q Ob.pos (i.get m) (a:=⟨b,0,none⟩) (c:=c) n.len (fun j u hu=>by rw [gi];exact z j u hu) (fun u hu=>Eu (List.all_eq_true.1 n.Fj u hu)) (by unfold maxLen;omega) D;obtain ⟨Va,Ua⟩:=Fg fr dst d;have hlen:(l++ys).length=l.length+ys.length:=List.length_append;rw [hlen] at h;refine Pe (v:=d) (w':=w') ?_ Ua (h d w' _ rfl (i.row m rfl F G H) Va Ua);have ea:=r ds;have e2:=y ds;simp [execOp,resolve,invoke,builtin,ea,e2,E]
end
end Go.ec
namespace Go.ec
open Go.Sb Go.RowKit
def Br (N:List (List UInt8×Int)) (y:Int):Option (Option (List UInt8×Int)):=
 if (N.filter fun e=>decide (e.2=y)).length≤1 then some (N.filter fun e=>decide (e.2=y)).head? else none
section
variable {P:Program}{Q:Exit→Act→World→Prop}{K:List Value→List Deferred→World→Prop}{fr Va:List Value}{ds:List Deferred}{w:World}
variable {dst:Option Tmp}{ty:TypeId}{pos:String}{after:Array Edge}{g:Option (Nat×Bool)}
variable {J:World}{rs mc:List wb}{μ U:M}
variable {T:TypeId}
theorem JB {x:Operand}{Gf aa:TypeId}{m c:Nat}{es:List MapEntry}(a:P.underlying T=some (.map Gf aa)) (d:qb fr x (.map (some m))) (e:Na μ J w rs) (f:w.heap[m]?=some (.map ⟨es⟩ c))
  (h:∀ b w',w.heap.size≤b→Na μ J w' (.Xh b m c [] c::rs)→Jg fr dst (.pointer (some ⟨b,0,none⟩)) fun Va=>K Va ds w'):xc P (Oper.mk dst (.range T x) ty pos after g) fr ds w K Q:=by
 obtain ⟨Va,Ua⟩:=Fg fr dst (.pointer (some ⟨w.heap.size,0,none⟩));refine Pe (v:=.pointer (some ⟨w.heap.size,0,none⟩)) (w':=w.alloc (.mapIter (some m) c #[] c)) ?_ Ua (h _ _ (Nat.le_refl _) (e.alloc rfl (heap_alloc_new w _)) Va Ua);simp [execOp,d ds,Instr.range,run_underlying a,getObj,Sem.run,f,Result.andThen]
def leftOf (es:List MapEntry) (seen:List Nat):List MapEntry:=es.filter fun e=>!seen.contains e.born
theorem mem_left {es:List MapEntry}{seen:List Nat}{e:MapEntry}:e ∈ leftOf es seen ↔ e ∈ es∧e.born ∉ seen:=by
 simp [leftOf,List.mem_filter]
theorem KB {es:List MapEntry}{seen:List Nat}{c:Nat}(a:∀ e ∈ es,e.born<c) :
  ((⟨es⟩:Array MapEntry).filter fun e=>!(⟨seen⟩:Array Nat).contains e.born)=⟨leftOf es seen⟩ ∧
  ((⟨leftOf es seen⟩:Array MapEntry).filter fun e=>decide (e.born<c))=⟨leftOf es seen⟩∧((⟨leftOf es seen⟩:Array MapEntry).filter fun e=>decide (e.born ≥ c))=#[]:=by
 have b:(leftOf es seen).filter (fun e=>decide (e.born<c))=leftOf es seen:=List.filter_eq_self.2 fun e he=>by simpa using a e (mem_left.1 he).1
 have d:(leftOf es seen).filter (fun e=>decide (e.born ≥ c))=[]:=List.filter_eq_nil_iff.2 fun e he=>by have:=a e (mem_left.1 he).1;simp;omega
 refine ⟨?_,?_,?_⟩
 ·rw [List.filter_toArray];simp [leftOf]
 ·rw [List.filter_toArray,b]
 ·rw [List.filter_toArray,d]
theorem KC {es:List MapEntry}{seen:List Nat}{c:Nat}(a:∀ e ∈ es,e.born<c):(!(⟨seen⟩:Array Nat).isEmpty && !(⟨es⟩:Array MapEntry).isEmpty && (⟨es⟩:Array MapEntry).all (fun e=>decide (e.born ≥ c)))=false:=by
 cases es with
 | nil=>simp
 | cons e es =>
  have:=a e (List.mem_cons_self ..);have h:¬ c≤e.born:=by omega
  simp only [List.all_toArray,List.all_cons];simp [h]
theorem LC {x:Operand}{b m c E:Nat}{es:List MapEntry}{seen:List Nat}{N:List (List UInt8×Int)}{Gj:M}(o:qb fr x (.pointer (some ⟨b,0,none⟩))) (p:Na μ J w rs) (q:Xb rs E (.Xh b m c seen c)) (r:w.heap[m]?=some (.map ⟨es⟩ c)) (s:qf Gj es c N)
  (F:∀ (k:List UInt8) (y:Int) (n:Nat),⟨S k,.int .i64 y,n⟩ ∈ leftOf es seen→∀ w' mc,hc rs E (.Xh b m c (seen++[n]) c) mc→Na μ J w' mc→Jg fr dst (.tuple ⟨[.bool true,S k,.int .i64 y]⟩) fun Va=>K Va ds w')
  (H:leftOf es seen=[]→Jg fr dst (.tuple ⟨[.bool false]⟩) fun Va=>K Va ds w) :
  xc P (Oper.mk dst (.next x false) ty pos after g) fr ds w K Q:=by
 have f:w.heap[b]?=some (.mapIter (some m) c ⟨seen⟩ c):=p.get q;have G:b<w.heap.size:=(Array.getElem?_eq_some_iff.1 f).1;obtain ⟨l1,j,l3⟩:=KB (seen:=seen) s.lt;have u:=KC (seen:=seen) s.lt;have key:∀ e ∈ leftOf es seen,∃ (k:List UInt8) (y:Int),e=⟨S k,.int .i64 y,e.born⟩:=by
  intro e he;have he:=(mem_left.1 he).1;have:∀ (es:List MapEntry) (N:List (List UInt8×Int)),fe Gj es N→∀ e ∈ es,∃ (k:List UInt8) (y:Int),e=⟨S k,.int .i64 y,e.born⟩:=by
   intro es
   induction es with
   | nil=>intro N _ e he; cases he
   | cons a es L =>
    intro N h e he;rw [fe] at h;obtain ⟨k,x,t,v,z,A,R⟩:=h;rcases List.mem_cons.1 he with rfl | he
    ·obtain ⟨a,b,n⟩:=e;have z:a=S k:=z;have A:b=.int .i64 x:=A;subst z;subst A;exact ⟨k,x,rfl⟩
    ·exact L t R e he
  exact this es N s.ff e he
 cases d:leftOf es seen with
 | nil =>
  obtain ⟨Va,Ua⟩:=Fg fr dst (.tuple ⟨[.bool false]⟩);refine Pe (w':=w) ?_ Ua (H d Va Ua);rw [d] at l1 j l3;simp only [execOp,o ds,Instr.next,getObj,Sem.run_bind,Sem.run,f,Result.andThen,r,u,Bool.false_eq_true,if_false,l1,j,l3];simp [Sem.run,Result.andThen,choose,Question.forced]
 | cons ta t0 =>
  rw [d] at l1 j l3;by_cases v:t0=[]
  ·subst v;obtain ⟨k,y,e⟩:=key ta (by rw [d];exact List.mem_singleton.2 rfl);obtain ⟨B,C⟩:=Zp w b (.mapIter (some m) c ⟨seen++[ta.born]⟩ c) G;obtain ⟨Va,l⟩:=Fg fr dst (.tuple ⟨[.bool true,S k,.int .i64 y]⟩);refine Pe (w':={ w with heap:=w.heap.setIfInBounds b (.mapIter (some m) c ⟨seen++[ta.born]⟩ c) }) ?_ l (F k y ta.born (by rw [d,← e];exact List.mem_singleton.2 rfl) _ _ rfl (p.put (b:=b) q rfl rfl rfl C B) Va l);rw [e] at l1 j l3;simp only [execOp,o ds,Instr.next,getObj,Sem.run_bind,Sem.run,f,Result.andThen,r,u,Bool.false_eq_true,if_false,l1,j,l3];simp [Sem.run,Result.andThen,choose,Question.forced,setObj,f]
  ·have hlen:¬ (ta::t0).length≤1:=by
    cases t0 with
    | nil=>exact absurd rfl v
    | cons _ _=>simp
   let i:=(w.tape w.drawn (.mapNext (ta::t0).length)) % (ta::t0).length
   have D:i<(ta::t0).length:=Nat.mod_lt _ (by simp);obtain ⟨k,y,e⟩:=key ((ta::t0)[i]) (by rw [d];exact List.getElem_mem D);obtain ⟨B,C⟩:=Zp w.drew b (.mapIter (some m) c ⟨seen++[((ta::t0)[i]).born]⟩ c) G;obtain ⟨Va,l⟩:=Fg fr dst (.tuple ⟨[.bool true,S k,.int .i64 y]⟩);refine Pe (w':={ w.drew with heap:=w.drew.heap.setIfInBounds b (.mapIter (some m) c ⟨seen++[((ta::t0)[i]).born]⟩ c) }) ?_ l (F k y ((ta::t0)[i]).born (by rw [d,← e];exact List.getElem_mem D) _ _ rfl ((p.drew (w':=w.drew) rfl rfl rfl rfl).put (b:=b) q rfl rfl rfl C B) Va l);have T:w.drew.heap[b]?=some (.mapIter (some m) c ⟨seen⟩ c):=f;have V:((if (⟨ta::t0⟩:Array MapEntry).isEmpty=true then #[none] else #[])++((⟨ta::t0⟩:Array MapEntry)++#[]).map some)=⟨(ta::t0).map some⟩:=by simp
   simp only [execOp,o ds,Instr.next,getObj,Sem.run_bind,Sem.run,f,Result.andThen,r,u,Bool.false_eq_true,if_false,l1,j,l3,V];have W:(⟨(ta::t0).map some⟩:Array (Option MapEntry)).size=(ta::t0).length:=by simp
   have X:(Question.mapNext (ta::t0).length).forced=false:=decide_eq_false hlen;have Y:(⟨(ta::t0).map some⟩:Array (Option MapEntry))[(Question.mapNext (ta::t0).length).cut (w.tape w.drawn (.mapNext (ta::t0).length))]?=some (some ((ta::t0)[i])):=by
    show (⟨(ta::t0).map some⟩:Array (Option MapEntry))[i]?=_;rw [List.getElem?_toArray,List.getElem?_map,List.getElem?_eq_getElem D];rfl
   simp only [W,choose,Sem.run,X,Y,Bool.false_eq_true,if_false];generalize (ta::t0)[i]=ea at *;rw [e];simp [Sem.run,Result.andThen,setObj,T]
theorem find_born {n:Nat}:∀ {es:List MapEntry}{e:MapEntry},(es.Pairwise fun a b=>a.born<b.born)→e ∈ es→e.born=n→es.find? (fun a=>a.born == n)=some e
 | a::es,e,h,he,c=>by
  rw [List.find?_cons];rcases List.mem_cons.1 he with rfl | d
  ·simp [c]
  ·have f:=(List.pairwise_cons.1 h).1 e d;have:¬ a.born=n:=by omega
   simp only [beq_eq_false_iff_ne.2 this];exact find_born (List.pairwise_cons.1 h).2 d c
theorem LB {x:Operand}{b m c d n:Nat}{es:List MapEntry}{seen:List Nat}{N:List (List UInt8×Int)}{Gj:M}{k:List UInt8}{y:Int}(e:qb fr x (.pointer (some ⟨b,0,none⟩))) (f:Na μ J w rs) (i:Xb rs d (.Xh b m c (seen++[n]) c)) (j:w.heap[m]?=some (.map ⟨es⟩ c)) (l:qf Gj es c N){o:List Nat}(he:⟨S k,.int .i64 y,n⟩ ∈ leftOf es o)
  (Ua:Wc fr dst (.tuple ⟨[S k,.int .i64 y]⟩) Va) (h:K Va ds w) :
  xc P (Oper.mk dst (.entry x) ty pos after g) fr ds w K Q:=by
 have p:w.heap[b]?=some (.mapIter (some m) c ⟨seen++[n]⟩ c):=f.get i;have q:(⟨seen++[n]⟩:Array Nat).back?=some n:=by simp [Array.back?]
 have r:(⟨es⟩:Array MapEntry).find? (fun a=>a.born == n)=some ⟨S k,.int .i64 y,n⟩:=by rw [List.find?_toArray];exact find_born l.inc (mem_left.1 he).1 rfl
 refine Pe (w':=w) ?_ Ua h;simp only [execOp,e ds,Instr.entry,getObj,Sem.run_bind,Sem.run,p,Result.andThen,j,q,r];simp [Sem.run]
def Ik (es:List MapEntry) (seen:List Nat) (y:Int) (n:Nat):Prop:=(leftOf es seen).length=n∧∀ e ∈ es,e.born ∈ seen→e.val≠.int .i64 y
theorem Ik.start {es:List MapEntry}{y:Int}:Ik es [] y es.length:=⟨by rw [leftOf,List.filter_eq_self.2 (by simp)],by simp⟩
theorem Ik.step {es:List MapEntry}{seen:List Nat}{y x:Int}{n m c:Nat}{k:List UInt8}{N:List (List UInt8×Int)}{Gj:M}(h:Ik es seen y n) (d:qf Gj es c N) (he:⟨S k,.int .i64 x,m⟩ ∈ leftOf es seen) (g:¬ x=y):∃ f,f<n∧Ik es (seen++[m]) y f:=by
 obtain ⟨i,j⟩:=h;refine ⟨_,?_,rfl,fun e hm b=>?_⟩
 ·rw [← i];have e:leftOf es (seen++[m])=(leftOf es seen).filter fun a=>decide (a.born≠m):=by
   rw [leftOf,leftOf,List.filter_filter];apply List.filter_congr;intro a _;by_cases q:a.born=m<;>simp [q]
  rw [e];refine Nat.lt_of_le_of_ne (List.length_filter_le ..) fun l=>?_;have:=(List.length_filter_eq_length_iff.1 l) _ he;simp at this
 ·rcases List.mem_append.1 b with b | b
  ·exact j e hm b
  ·have b:=List.mem_singleton.1 b;have ea:=find_born d.inc hm b;have e2:=find_born d.inc (mem_left.1 he).1 rfl;rw [ea] at e2;rw [Option.some.inj e2];intro q;cases q;exact g rfl
theorem fe.mem_of {Gj:M}{k:List UInt8}{y:Int}{n:Nat}:∀ {es:List MapEntry}{N:List (List UInt8×Int)},fe Gj es N→(⟨S k,.int .i64 y,n⟩:MapEntry) ∈ es→(k,y) ∈ N
 | a::es,N,h,he=>by
  rw [fe] at h;obtain ⟨d,x,t,rfl,b,c,e⟩:=h;rcases List.mem_cons.1 he with rfl | he
  ·have b:S k=S d:=b;have c:Value.int .i64 y=.int .i64 x:=c;cases c;cases b;exact List.mem_cons_self ..
  ·exact List.mem_cons_of_mem _ (fe.mem_of e he)
theorem fe.xy {Gj:M}{k:List UInt8}{y:Int}:∀ {es:List MapEntry}{N:List (List UInt8×Int)},fe Gj es N→(k,y) ∈ N→∃ e ∈ es,e.val=.int .i64 y
 | [],N,h,he=>by rw [fe] at h; subst h; cases he
 | a::es,N,h,he=>by
  rw [fe] at h;obtain ⟨g,x,t,rfl,i,b,c⟩:=h;rcases List.mem_cons.1 he with e | he
  ·cases e;exact ⟨a,List.mem_cons_self ..,b⟩
  ·obtain ⟨e,d,f⟩:=fe.xy c he;exact ⟨e,List.mem_cons_of_mem _ d,f⟩
theorem Ik.hit {es:List MapEntry}{seen:List Nat}{y x:Int}{m c:Nat}{k:List UInt8}{N:List (List UInt8×Int)}{Gj:M}{o:Option (List UInt8×Int)}(f:qf Gj es c N) (he:⟨S k,.int .i64 x,m⟩ ∈ leftOf es seen) (h:x=y) (g:Br N y=some o):o.isSome=true∧k=(o.getD ([],0)).1:=by
 subst h;have hm:=fe.mem_of f.ff (mem_left.1 he).1;rw [Br] at g;split at g
 ·rename_i i;obtain rfl:=Option.some.inj g;have j:(k,x) ∈ N.filter fun e=>decide (e.2=x):=List.mem_filter.2 ⟨hm,by simp⟩;have aux:∀ F:List (List UInt8×Int),F.length≤1→(k,x) ∈ F→F.head?=some (k,x):=by
   intro F b d
   match F,b,d with
   | [a],_,d=>rw [List.mem_singleton.1 d]; rfl
   | _::_::_,b,_=>simp at b
  rw [aux _ i j];exact ⟨rfl,rfl⟩
 ·cases g
theorem Ik.fin {es:List MapEntry}{seen:List Nat}{y:Int}{n c:Nat}{N:List (List UInt8×Int)}{Gj:M}{o:Option (List UInt8×Int)}(h:Ik es seen y n) (i:qf Gj es c N) (j:leftOf es seen=[]) (g:Br N y=some o):¬ o.isSome=true:=by
 have he:N.filter (fun e=>decide (e.2=y))=[]:=by
  rw [List.filter_eq_nil_iff];intro a l b;obtain ⟨k,x⟩:=a;have b:x=y:=by simpa using b
  subst b;obtain ⟨e,d,m⟩:=fe.xy i.ff l;by_cases f:e.born ∈ seen
  ·exact h.2 e d f m
  ·have:e ∈ leftOf es seen:=mem_left.2 ⟨d,f⟩;rw [j] at this;cases this
 rw [Br,he] at g;obtain rfl:=Option.some.inj g;simp
abbrev BG (_:M) (es:List MapEntry) (seen:List Nat) (y:Int) (n:Nat):Prop:=Ik es seen y n
end
end Go.ec
namespace Go.ec
open Go.Sb Go.RowKit
def vn (n:Int):Option (List UInt8):=if -9223372036854775808≤n∧n≤9223372036854775807 then some (Lib.itoa n) else none
def Hd (_:M) (b:Nat) (v:Value):Prop:=v=.pointer none∨v=.pointer (some ⟨b,0,none⟩)
theorem Hd.nil {μ:M}{b:Nat}:Hd μ b (.pointer none):=.inl rfl
theorem Hd.up {μ U:M}{b:Nat}{v:Value}(h:Hd μ b v) (_:ra μ U):Hd U b v:=h
theorem Tw {κ β:Type}[DecidableEq κ]:∀ (m:List (κ×β)) (a k:κ) (x:β),Ud (qc m a x) k=if a=k then some x else Ud m k
 | [],a,k,x=>by simp [qc,Ud]
 | (b,y)::m,a,k,x=>by
  by_cases h:b=a
  ·subst h;simp only [qc,Ud,if_pos];split<;>rfl
  ·simp only [qc,Ud,if_neg h,Tw m a k x];by_cases c:b=k
   ·subst c;simp [Ne.symm h]
   ·simp [c]
theorem VA {κ β:Type}[DecidableEq κ]{m:List (κ×β)}{a b k:κ}{x y:β}(h:a≠b):Ud (qc (qc m a x) b y) k=Ud (qc (qc m b y) a x) k:=by
 simp only [Tw];split<;>split<;>simp_all
section
variable {P:Program}{w:World}{T:TypeId}{Sc:List Value}{n:Nat}
theorem Iz {t u ty:TypeId}(h:P.underlying t=some (.slice T)) (hu:P.underlying u=some .string) (K:ad P T false Sc 1 1) (L:Sc=[.int .u8 0])
  {v:Value}{xs:List Value}(q:Row w v T 1 n xs) (s:ByteArray) (B:n+s.size≤maxLen) (X:n+s.size≤140737488355328) :
  ∃ l w',(Builtin.append_ #[t,u] ty #[v,.string s]).run P w=.ok l w'∧Row w' l T 1 (n+s.size) (xs++Lib.strCells s)∧Qg (fun b=>some b≠v.ownBlock) w w' ∧
   (l.ownBlock=v.ownBlock∨∃ b,l.ownBlock=some b∧w.heap.size≤b):=by
 obtain ⟨i,z,m,C,M,D,E⟩:=K.inf;have N:z.cells.size=1:=by rw [M,L];rfl
 have Y:n+s.size≤9223372036854775807:=by simp only [maxLen] at B;omega
 have d:(Lib.strCells s).length=s.size:=Lib.strCells_length s;have r:xs.length=n:=by simpa using q.1
 have hlen:(xs++Lib.strCells s).length=(n+s.size)*1:=by rw [List.length_append,r,d,Nat.mul_one]
 have grown:∀ (a:Nat),a<n+s.size→∀ (row:Option Nat),
   Row (w.drew.alloc (.cells (xs.toArray++(Lib.strCells s).toArray++Builtin.zeroCells z.cells (grownCap w (n+s.size) a T - (n+s.size))) T)) (.slice (some ⟨w.heap.size,0,none⟩) (n+s.size) (grownCap w (n+s.size) a T)) T 1 (n+s.size) (xs++Lib.strCells s) ∧
   Qg (fun b=>some b≠row) w (w.drew.alloc (.cells (xs.toArray++(Lib.strCells s).toArray++Builtin.zeroCells z.cells (grownCap w (n+s.size) a T - (n+s.size))) T)):=by
  intro a Z row;have Q:=grownCap_ge w (n+s.size) a T;have x:grownCap w (n+s.size) a T≤maxLen:=grownCap_le_maxLen w (n+s.size) a T B;refine ⟨⟨hlen,.inr ⟨w.heap.size,0,_,_,rfl,heap_alloc_new w.drew _,Q,x,?_,?_⟩⟩,⟨rfl,rfl,rfl,by simp,fun k p _=>by first | exact heap_alloc_old w.drew _ k p | exact heap_alloc_old w.drew _ p⟩⟩
  ·simp only [Array.size_append,List.size_toArray,size_zeroCells,N,r,d];omega
  ·simp only [Array.toList_append,List.append_assoc,List.drop_zero];rw [← List.append_assoc,← hlen];exact List.take_left
 rcases q.2 with ⟨rfl,rfl⟩ | ⟨g,o,cap,cur,rfl,y,gc,x,lc,F⟩
 ·have R:xs=[]:=List.eq_nil_of_length_eq_zero r;subst R;by_cases hm:s.size=0
  ·have S:Lib.strCells s=[]:=List.eq_nil_of_length_eq_zero (by omega);refine ⟨.slice none 0 0,w,?_,⟨by simp [S,hm],.inl ⟨rfl,by omega⟩⟩,.refl w,.inl rfl⟩;have A:=Lib.run_firstCells_string (P:=P) w i.size s;rw [hm] at A;simp [Builtin.append_,run_underlying h,run_underlying hu,sizeOf,typeInfo,m,Builtin.lenOf,hm,Builtin.firstCells,loadCells,loadCellsFrom]
  ·have f:=run_append_nil_string (P:=P) w t u ty T i z h hu m C s (by omega) (by omega) (by rw [E];omega);have c:=grown 0 (by omega) (Value.ownBlock (.slice none 0 0));simp only [Nat.zero_add,List.nil_append,Array.empty_append] at c ⊢;refine ⟨_,_,f,?_,?_,.inr ⟨_,rfl,Nat.le_refl _⟩⟩
   ·have e:(s.data.map fun b=>Value.int .u8 b.toNat)=(Lib.strCells s).toArray:=by
     apply Array.ext';simp [Lib.strCells]
    rw [e];exact c.1
   ·have e:(s.data.map fun b=>Value.int .u8 b.toNat)=(Lib.strCells s).toArray:=by
     apply Array.ext';simp [Lib.strCells]
    rw [e];exact c.2
 ·by_cases G:n+s.size≤cap
  ·have V:o+n+s.size≤cur.size:=by omega
   have f:(Builtin.append_ #[t,u] ty #[.slice (some ⟨g,o,none⟩) n cap,.string s]).run P w =
     .ok (.slice (some ⟨g,o,none⟩) (n+s.size) cap) (w.setRow g (cur.toList.take (o+n)++Lib.strCells s++cur.toList.drop (o+n+s.size)).toArray):=by
    have A:=Lib.run_firstCells_string (P:=P) w 1 s;have H:=run_storeCells_at P g (o+n) T (Lib.strCells s) 0 cur w y (by simpa [d] using V) (Lib.strCells_oneCell s);simp only [Nat.add_zero,d] at H;simp [Builtin.append_,run_underlying h,run_underlying hu,sizeOf,typeInfo,m,D,Builtin.lenOf,G,A,gi,H]
   refine ⟨_,_,f,⟨hlen,.inr ⟨g,o,cap,_,rfl,setRow_heap w g cur _ T _ y,G,x,?_,?_⟩⟩,⟨rfl,rfl,rfl,by simp [World.setRow],fun k _ p=>setRow_other w g k _ (fun e=>p (by simp [Value.ownBlock,e]))⟩,.inl rfl⟩
   ·simp only [List.size_toArray,List.length_append,List.length_take,List.length_drop,Array.length_toList,d];omega
   ·rw [← hlen,← F];have ea:(cur.toList.take (o+n)).drop o=(cur.toList.drop o).take (n*1):=by
     rw [List.drop_take];congr 1;omega
    have W:o≤(cur.toList.take (o+n)).length:=by simp;omega
    rw [List.append_assoc,List.drop_append_of_le_length W,ea,← List.append_assoc];exact List.take_left
  ·have holds:∀ j u,xs[j]?=some u→w.cell? ((⟨g,o,none⟩:Addr).add j)=some u:=by
    intro j u hu;rw [gi,cell_of_row w g (o+j) cur T (0,0) y];rw [← F,List.getElem?_take] at hu;split at hu
    ·rw [List.getElem?_drop] at hu;simpa using hu
    ·cases hu
   have f:=Lib.run_append_grow_string (P:=P) w t u ty T i z h hu m C ⟨g,o,none⟩ n cap xs (by rw [D];exact q.1) holds s (by omega) (by omega) (growslice_fits (by omega) (by rw [E];omega));have c:=grown cap (by omega) (Value.ownBlock (.slice (some ⟨g,o,none⟩) n cap));exact ⟨_,_,f,c.1,c.2,.inr ⟨_,rfl,Nat.le_refl _⟩⟩
end
section
variable {P:Program}{Q:Exit→Act→World→Prop}{K:List Value→List Deferred→World→Prop}{fr Va:List Value}{ds:List Deferred}{w:World}
variable {dst:Option Tmp}{ty:TypeId}{pos:String}{after:Array Edge}{g:Option (Nat×Bool)}
variable {J:World}{rs mc:List wb}{μ U:M}
variable {T:TypeId}
theorem MB {t u:TypeId}{s x:Operand}{v:Value}{k:Nat}{cells:List Value}{l y c:List UInt8}(i:P.underlying t=some (.slice T)) (hu:P.underlying u=some .string) (j:ad P T false [.int .u8 0] 1 1)
  (m:qb fr s v) (n:qb fr x (S y)) (d:Na μ J w rs) (e:Xb rs k (.row v T 1 l.length cells)) (qo:app l y=some c)
  (h:∀ a w' mc,hc rs k (.row a T 1 c.length (cells++Lib.strCells ⟨⟨y⟩⟩)) mc→Na μ J w' mc→Jg fr dst a fun Va=>K Va ds w') :
  xc P (Oper.mk dst (.call { callee:=.builtin .append,args:=#[s,x],argTypes:=#[t,u] }) ty pos after g) fr ds w K Q:=by
 obtain ⟨o,z⟩:=Mx qo;have b:(⟨⟨y⟩⟩:ByteArray).size=y.length:=rfl;obtain ⟨a,w',p,f,q,r⟩:=Iz (P:=P) (ty:=ty) i hu j rfl (d.get e) ⟨⟨y⟩⟩ (by rw [b];unfold maxLen;omega) (by rw [b];omega);rw [b,← o] at f;obtain ⟨Va,Ua⟩:=Fg fr dst a;refine Pe (v:=a) (w':=w') ?_ Ua (h a w' _ rfl (d.row e rfl f q r) Va Ua);have ea:=m ds;have e2:=n ds;simp [execOp,resolve,invoke,builtin,ea,e2,S,p]
end
theorem Sa.str {μ:M}:∀ y:List UInt8,Sa μ (Lib.strCells ⟨⟨y⟩⟩) y
 | []=>Sa.nil
 | c::y=>by
  exact Sa.cons (α:=UInt8) (cs:=[.int .u8 (c.toNat:Int)]) rfl (Sa.str y)
section
variable {P:Program}(w:World)
theorem mA {e:TypeId}(a:P.cellsOf e=1) (count o n:Nat) (b:o+n≤count):liesAt P P.depth e count o e n=true:=by
 have Ua:P.depth=(2*(P.types.size+Made.depth)+1)+1:=rfl;rw [Ua];simp only [liesAt,Bool.or_eq_true];left;rw [Ua];simp [rowAt,a,sameLayout];omega
theorem Hz (a it ty e:TypeId) (c:P.underlying a=some (.pointer e)) (b:P.cellsOf e=1) (g o cells:Nat) (d:w.shape? g=some (e,cells)) (l:List UInt8) (f:l≠[]) (h:o+l.length≤cells) (v:l.length≤9223372036854775807)
  (i:∀ j x,l[j]?=some x→w.cell? ((⟨g,o,none⟩:Addr).add j)=some (.int .u8 x.toNat)) :
  (Builtin.unsafeString_ #[a,it] ty #[.pointer (some ⟨g,o,none⟩),.int .i64 l.length]).run P w=.ok (.string ⟨l.toArray⟩) (w.freeze ⟨g,o,none⟩ l.length):=by
 have k:l.length≠0:=by simpa using f
 have m:=Lib.run_loadBytes (P:=P) w l ⟨g,o,none⟩ .empty i;have p:=mA (P:=P) b (cells / P.cellsOf e) o l.length (by rw [b];simpa using h);have q:¬ (9223372036854775807:Int)<(l.length:Int):=by omega
 have r:Builtin.unsafeString_ #[a,it] ty #[.pointer (some ⟨g,o,none⟩),.int .i64 l.length] =
   (do
    let n ← asInt (.int .i64 l.length)
    if n < 0 then runtimePanic (.error "unsafe.String: len out of range")
    if n > IntKind.i64.max then unsupported (.unsafePointer "String: a length above the largest int")
    if n=0 then pure (.string .empty)
    else if ← variablesAt ⟨g,o,none⟩ (← elemOf a) n.toNat then do
     let s ← loadBytes ⟨g,o,none⟩ .empty n.toNat
     freeze ⟨g,o,none⟩ n.toNat
     pure (.string s)
    else unsupported (.unsafePointer "String: not so many bytes at ptr")) := rfl
 rw [r];have t:IntKind.i64.max=9223372036854775807:=rfl;have u:¬ (l.length:Int)<0:=by omega
 simp [asInt,asIntOf,t,q,u,k,variablesAt,d,elemOf,run_underlying c,p,m]
end
end Go.ec
namespace Go.ec
abbrev wd (l:List UInt8) (p:Nat):Nat:=(Utf8.decode ⟨⟨l⟩⟩ p).2
end Go.ec
namespace Go.ec
open Go.Sb Go.RowKit
theorem Sa.bytes {μ:M}:∀ {l:List UInt8}{cs:List Value},Sa μ cs l→cs=l.map fun x=>.int .u8 (x.toNat:Int)
 | [],cs,h=>h
 | c::l,cs,h=>by
  obtain ⟨a,t,rfl,b,d⟩:=h;have b:a=[.int .u8 (c.toNat:Int)]:=b;rw [b,Sa.bytes d];rfl
section
variable {P:Program}{Q:Exit→Act→World→Prop}{K:List Value→List Deferred→World→Prop}{fr Va:List Value}{ds:List Deferred}{w:World}
variable {dst:Option Tmp}{ty:TypeId}{pos:String}{after:Array Edge}{qo:Option (Nat×Bool)}
variable {J:World}{rs mc:List wb}{μ U:M}
variable {T:TypeId}
theorem LD {d it:TypeId}{x y:Operand}{l:List UInt8}{v:Value}{cs:List Value}{a p:Option Addr}{k cap:Nat}(s:l≠[]→p=a) (u:P.underlying d=some (.pointer T)) (z:P.cellsOf T=1) (e:v=.slice a l.length cap)
  (A:qb fr x (.pointer p)) (B:qb fr y (.int .i64 (l.length:Int))) (m:Na μ J w rs) (n:Xb rs k (.row v T 1 l.length cs)) (hm:Sa μ cs l)
  (h:∀ w' r' mc,hc rs k r' mc→Na μ J w' mc→Jg fr dst (S l) fun Va=>K Va ds w') :
  xc P (Oper.mk dst (.call { callee:=.builtin .unsafeString,args:=#[x,y],argTypes:=#[d,it] }) ty pos after qo) fr ds w K Q:=by
 subst e;have ea:=A ds;have e2:=B ds;by_cases c:l=[]
 ·subst c;obtain ⟨Va,Ua⟩:=Fg fr dst (S []);have C:rs.set k (.row (.slice a 0 cap) T 1 0 cs)=rs:=by
   obtain ⟨r,he⟩:=List.getElem?_eq_some_iff.1 n;have he:rs[k]=.row (.slice a 0 cap) T 1 0 cs:=he;rw [← he];exact List.set_getElem_self r
  refine Pe (v:=S []) (w':=w) ?_ Ua (h w (.row (.slice a 0 cap) T 1 0 cs) _ rfl (by rw [C];exact m) Va Ua);have q:=Lib.run_unsafeString_none (P:=P) w d it ty p;simp only [List.length_nil] at e2;simp [execOp,resolve,invoke,builtin,ea,e2,q,S];rfl
 ·obtain rfl:=s c;obtain ⟨N,D⟩:=m.get n;rcases D with ⟨e,E⟩ | ⟨g,o,R,cur,e,f,V,F,W,G⟩
  ·exact absurd (List.length_eq_zero_iff.1 E) c
  ·cases e;have H:∀ j x,l[j]?=some x→w.cell? ((⟨g,o,none⟩:Addr).add j)=some (.int .u8 x.toNat):=by
    intro j x i;have X:j<l.length:=(List.getElem?_eq_some_iff.1 i).1;rw [gi,cell_of_row w g (o+j) cur T (0,0) f];have:=congrArg (fun t:List Value=>t[j]?) (G.trans hm.bytes);simp only [List.getElem?_take,List.getElem?_drop,List.getElem?_map,i] at this;rw [if_pos (by omega)] at this;simpa using this
   have q:=Hz (P:=P) w d it ty T u z g o cur.size (by simp [World.shape?,f]) l c (by omega) (by unfold maxLen at F;omega) H;obtain ⟨Va,Ua⟩:=Fg fr dst (S l);have r:g<w.heap.size:=(Array.getElem?_eq_some_iff.1 f).1;have hw:(w.freeze ⟨g,o,none⟩ l.length).heap[g]?=some (.cells cur T (o,o+l.length)):=by
    have L:l.length≠0:=by simpa using c
    simp [World.freeze,L,Array.getElem?_modify,f]
   have M:Qg (fun k=>k≠g) w (w.freeze ⟨g,o,none⟩ l.length):=by
    unfold World.freeze;split
    ·exact .refl w
    ·exact ⟨rfl,rfl,rfl,by simp,fun j _ i=>by simp [Array.getElem?_modify,Ne.symm i]⟩
   refine Pe (v:=S l) (w':=w.freeze ⟨g,o,none⟩ l.length) ?_ Ua (h _ (.ro g T cur.toList) _ rfl (m.put n (b:=g) rfl rfl rfl ⟨_,hw⟩ M) Va Ua);simp [execOp,resolve,invoke,builtin,ea,e2,q,S]
theorem sF {e:TypeId}{x:Operand}{l:List UInt8}{v:Value}{cs:List Value}{a:Option Addr}{k cap:Nat}{d:Array TypeId}(j:P.underlying ty=some (.pointer e)) (b:v=.slice a l.length cap)
  (m:qb fr x v) (c:Na μ J w rs) (n:Xb rs k (.row v T 1 l.length cs))
  (h:∀ w' p,(l≠[]→p=a)→Na μ J w' rs→Jg fr dst (.pointer p) fun Va=>K Va ds w') :
  xc P (Oper.mk dst (.call { callee:=.builtin .unsafeSliceData,args:=#[x],argTypes:=d }) ty pos after qo) fr ds w K Q:=by
 subst b;have ea:=m ds;cases a with
 | none =>
  obtain ⟨Va,Ua⟩:=Fg fr dst (.pointer none);refine Pe (v:=.pointer none) (w':=w) ?_ Ua (h w none (fun _=>rfl) c Va Ua);simp [execOp,resolve,invoke,builtin,ea,Lib.run_unsafeSliceData_nil]
 | some a0 =>
  by_cases f:cap=0
  ·subst f;obtain ⟨y,q⟩:=c.get n;rcases q with ⟨b,-⟩ | ⟨g,o,z,cur,b,r,A,B,C,D⟩
   ·cases b
   ·cases b;have s:l=[]:=List.length_eq_zero_iff.1 (by omega);have t:=Lib.run_unsafeSliceData_zero (P:=P) w d ty e j ⟨g,o,none⟩ l.length (T,cur.size) (by simp [World.shape?,r]);obtain ⟨Va,Ua⟩:=Fg fr dst (.pointer (some ⟨w.heap.size,0,none⟩));refine Pe (v:=.pointer (some ⟨w.heap.size,0,none⟩)) (w':=w.alloc (.view ⟨g,o,none⟩ e)) ?_ Ua (h (w.alloc (.view ⟨g,o,none⟩ e)) _ (fun u=>absurd s u) (c.grow ⟨rfl,rfl,rfl,by simp,fun k i _=>by first | exact heap_alloc_old w _ k i | exact heap_alloc_old w _ i⟩) Va Ua);simp [execOp,resolve,invoke,builtin,ea,t]
  ·obtain ⟨Va,Ua⟩:=Fg fr dst (.pointer (some a0));refine Pe (v:=.pointer (some a0)) (w':=w) ?_ Ua (h w (some a0) (fun _=>rfl) c Va Ua);simp [execOp,resolve,invoke,builtin,ea,Lib.run_unsafeSliceData_row _ _ _ _ _ _ f]
end
end Go.ec
namespace Go.ec
open Go.Sb Go.RowKit
def pc {Re α β : Type}(o : Option (Except Re α)) (f : α → Option (Except Re β)) : Option (Except Re β):=
  match o with
  | none => none
  | some (.error e) => some (.error e)
  | some (.ok x) => f x
theorem Dc {Re α β : Type}{o : Option (Except Re α)}{f : α → Option (Except Re β)}{r : Except Re β}(h : pc o f = some r) : (∃ e, o = some (.error e) ∧ r = .error e) ∨ ∃ x, o = some (.ok x) ∧ f x = some r := by
  unfold pc at h;split at h
  · cases h
  · rename_i e;exact .inl ⟨e, rfl, (Option.some.inj h).symm⟩
  · rename_i x;exact .inr ⟨x, rfl, h⟩
def iu {Re α β : Type}(o : Option (Except Re α)) (k : Re → β) (f : α → Option β) : Option β :=
  match o with
  | none => none
  | some (.error e) => some (k e)
  | some (.ok x) => f x
theorem vz {Re α β : Type}{o : Option (Except Re α)}{k : Re → β}{f : α → Option β}{r : β}(h : iu o k f = some r) : (∃ e, o = some (.error e) ∧ r = k e) ∨ ∃ x, o = some (.ok x) ∧ f x = some r := by
  unfold iu at h;split at h
  · cases h
  · rename_i e;exact .inl ⟨e, rfl, (Option.some.inj h).symm⟩
  · rename_i x;exact .inr ⟨x, rfl, h⟩
section
variable {P : Program}{Q : Exit → Act → World → Prop}{K : List Value → List Deferred → World → Prop}{fr Va : List Value}{ds : List Deferred}{w : World}
variable {dst : Option Tmp}{ty : TypeId}{pos : String}{after : Array Edge}{g : Option (Nat × Bool)}
variable {J : World}{rs mc : List wb}{μ U : M}{Re α : Type}
def Nr (V : Re → Value) (r : Except Re α) (R : α → Value → World → Prop) (E : World → Prop) : Ending → World → Prop
  | .returned v, w => ∃ x, r = .ok x ∧ R x v w
  | .panicked a, w => ∃ e, r = .error e ∧ a = [{ v := V e, recovered := false }] ∧ E w
  | .outgrown, _ => False
structure Vf (P : Program) (f : FuncId) (args : List Value) (w : World) (V : Re → Value) (r : Except Re α) (R : α → Value → World → Prop) (E : World → Prop) : Prop where
  out : Calls P f ⟨args⟩ w (Nr V r R E)
theorem Vf.ok {f : FuncId}{args : List Value}{V : Re → Value}{x : α}{R : α → Value → World → Prop}{E : World → Prop}(h : Vf P f args w V (.ok x) R E) : Pc P f args w (R x):=
  ⟨Calls.mono h.out fun e w' he => by
    cases e with
    | returned v => obtain ⟨y, a, h⟩ := he; obtain rfl := Except.ok.inj a; exact h
    | panicked c => obtain ⟨y, a, -⟩ := he; cases a
    | outgrown => exact he⟩
theorem vc {f : Operand}{xs : List Operand}{tys : Array TypeId}{k : FuncId}{vs : List Value}{V : Re → Value}{e : Re}{R : α → Value → World → Prop}{E : World → Prop}(b : Ic P k) (d : qb fr f (.func (.func k) #[] #[])) (i : kl fr xs vs)
    (j : Vf P k vs w V (.error e) R E) (h : ∀ w', E w' → Q (.panic [{ v := V e, recovered := false }]) (F fr ds) w') : xc P (Oper.mk dst (.call { callee := .value f, args := ⟨xs⟩, argTypes := tys }) ty pos after g) fr ds w K Q := by
  constructor;intro n o;have l := Du (w := w) (dst := dst) (ty := ty) (pos := pos) (after := after) (g := g) (tys := tys) (ds := ds) (cap := []) b d i;unfold Oper.wp;rw [l, Oper.upon_enter, List.append_nil];exact Calls.mono j.out fun e w' he => by
    cases e with
    | returned v => obtain ⟨y, a, -⟩ := he; cases a
    | panicked c => obtain ⟨y, a, rfl, m⟩ := he; obtain rfl := Except.error.inj a; exact h w' m
    | outgrown => exact he.elim
def Cr (P : Program) (fn : Func) (V : Re → Value) (r : Except Re α) (R : α → Value → World → Prop) (E : World → Prop) : Exit → Act → World → Prop := bodyPost P fn (Nr V r R E)
def Po (P : Program) (fn : Func) (V : Re → Value) (r : Except Re α) (R : α → Value → World → Prop) (E : World → Prop) : Exit → Act → World → Prop
  | .panic b, a, w => ∀ tmps, Leaves P fn tmps (Nr V r R E) a.defers (.panicking b) w
  | e, a, w => bodyPostD P fn (Nr V r R E) e a w
theorem Ak {f : FuncId}{fn : Func}{c : Code}{args frm : List Value}{V : Re → Value}{r : Except Re α}{R : α → Value → World → Prop}{E : World → Prop}(a : P.funcs[f]? = some fn) (b : fn.body = some c)
    (d : args ++ List.replicate (fn.ntmps - args.length) undef = frm) (h : Td P c (Cr P fn V r R E) frm [] w) : Vf P f args w V r R E := by
  refine ⟨calls_of_wp a b ?_⟩;subst d;have : (⟨args⟩ : Array Value) ++ Array.replicate (fn.ntmps - args.length) undef = ⟨args ++ List.replicate (fn.ntmps - args.length) undef⟩ := by
    apply Array.ext';simp
  have h := h.out;simpa [F, Cr, this] using h
theorem Uu {f : FuncId}{fn : Func}{c : Code}{args frm : List Value}{V : Re → Value}{r : Except Re α}{R : α → Value → World → Prop}{E : World → Prop}(d : P.funcs[f]? = some fn) (g : fn.body = some c)
    (i : args ++ List.replicate (fn.ntmps - args.length) undef = frm) (h : Td P c (Po P fn V r R E) frm [] w) : Vf P f args w V r R E := by
  refine ⟨calls_of_wp_defers d g ?_⟩;subst i;have ea : (⟨args⟩ : Array Value) ++ Array.replicate (fn.ntmps - args.length) undef = ⟨args ++ List.replicate (fn.ntmps - args.length) undef⟩ := by
    apply Array.ext';simp
  have h := wp_mono h.out (Q' := bodyPostD P fn (Nr V r R E)) fun e a w b => by
    cases e<;>first | exact b | exact b a.tmps
  simpa [F, ea] using h
variable {fn : Func}{V : Re → Value}{x : α}{r : Except Re α}{R : α → Value → World → Prop}{E : World → Prop}
theorem cg {a : Act}(h : Jm P fn (R x) .ret a w) : Cr P fn V (.ok x) R E .ret a w := by
  obtain ⟨b, v, c, d⟩ := h;exact ⟨b, v, c, x, rfl, d⟩
theorem YF {a : Act}(h : Jm P fn (R x) .normal a w) : Cr P fn V (.ok x) R E .normal a w := by
  obtain ⟨b, v, c, d⟩ := h;exact ⟨b, v, c, x, rfl, d⟩
theorem ko (h : Ol P fn (R x) .ret (F fr []) w) : Po P fn V (.ok x) R E .ret (F fr []) w := by
  obtain ⟨v, a, b⟩ := h;exact ⟨v, a, x, rfl, b⟩
theorem wq {a : Value → World → Prop}{k : FuncId}{cap vs : List Value}(b : Ic P k) (d : Ko P k (vs ++ cap) w a) (h : ∀ v w', a v w' → Po P fn V r R E .ret (F fr ds) w') :
    Po P fn V r R E .ret (F fr (⟨.fn (.func k) ⟨cap⟩, ⟨vs⟩⟩ :: ds)) w := by
  refine ⟨by simp, .func k, ⟨cap⟩, k, ⟨vs ++ cap⟩, rfl, ?_, ?_⟩
  · have := b.out ⟨vs ++ cap⟩ w;simp [invoke, this]
  · refine (d.out .returning).mono fun e f w' he => ?_;obtain ⟨rfl, he⟩ := he;cases e with
    | returned v => exact h v w' he
    | panicked c => exact he.elim
    | outgrown => exact he.elim
theorem Uc {e : Re}(h : E w) : Cr P fn V (.error e) R E (.panic [{ v := V e, recovered := false }]) (F fr []) w := ⟨rfl, e, rfl, rfl, h⟩
theorem cj {e : Re}(h : E w) : Po P fn V (.error e) R E (.panic [{ v := V e, recovered := false }]) (F fr []) w := fun _ => ⟨e, rfl, rfl, h⟩
theorem lo {v : Value}{a : Value → World → Prop}{k : FuncId}{cap vs : List Value}(b : Ic P k) (d : Ko P k (vs ++ cap) w a) (h : ∀ u w', a u w' → Po P fn V r R E (.panic [{ v, recovered := false }]) (F fr ds) w') :
    Po P fn V r R E (.panic [{ v, recovered := false }]) (F fr (⟨.fn (.func k) ⟨cap⟩, ⟨vs⟩⟩ :: ds)) w := fun tmps => by
  refine ⟨by simp, .func k, ⟨cap⟩, k, ⟨vs ++ cap⟩, rfl, ?_, ?_⟩
  · have := b.out ⟨vs ++ cap⟩ w;simp [invoke, this]
  · refine (d.out _).mono fun e f w' he => ?_;obtain ⟨rfl, he⟩ := he;cases e with
    | returned v => exact h v w' he tmps
    | panicked c => exact he.elim
    | outgrown => exact he.elim
def xq (P : Program) (fn : Func) (R : Value → World → Prop) : Exit → Act → World → Prop := bodyPostD P fn (okV R)
def Ct (fn : Func) : List Nat := fn.results.toList.map fun r => match r with | .tmp t => t | .cell a _ => a
theorem nA {b : List Value}{d : Nat}{v : Value}{r : ResultVar}(h : (match r with | .tmp t => t | .cell a _ => a) ≠ d) : bl ⟨b.set d v⟩ r = bl ⟨b⟩ r := by
  cases r with
  | tmp t =>
    have : t ≠ d := h;simp [bl, List.getElem?_set, Ne.symm this]
  | cell a t =>
    have : a ≠ d := h;simp [bl, List.getElem?_set, Ne.symm this]
theorem Vz {fn : Func}{b : List Value}{d : Nat}{v : Value}(h : (Ct fn).contains d = false) : results fn ⟨b.set d v⟩ = results fn ⟨b⟩ := by
  rw [nu, nu];have key : ∀ l : List ResultVar, (∀ r ∈ l, (match r with | .tmp t => t | .cell a _ => a) ≠ d) → l.mapM (bl ⟨b.set d v⟩) = l.mapM (bl ⟨b⟩):= by
    intro l f
    induction l with
    | nil => rfl
    | cons r l g =>
      rw [List.mapM_cons, List.mapM_cons, nA (f r (by simp)), g fun r c => f r (by simp [c])]
  have i : ∀ r ∈ fn.results.toList, (match r with | .tmp t => t | .cell a _ => a) ≠ d := by
    intro r c e;have : d ∈ Ct fn := List.mem_map.2 ⟨r, c, e⟩;simp [List.contains_iff_mem, this] at h
  rw [Array.mapM_eq_mapM_toList, Array.mapM_eq_mapM_toList, key _ i]
theorem Leaves.set {fn : Func}{g : List Value}{d : Nat}{v : Value}{R : Ending → World → Prop}(h : (Ct fn).contains d = false) : ∀ (ds : List Deferred) (u : FrameMode) (w : World), Leaves P fn ⟨g.set d v⟩ R ds u w → Leaves P fn ⟨g⟩ R ds u w
  | [], .returning, w, a => by
    obtain ⟨x, b, c⟩ := a;exact ⟨x, by rw [← b, Vz h], c⟩
  | [], .panicking i, w, a => a
  | [], .run, w, a => a
  | m :: ds, u, w, a => by
    obtain ⟨j, k, cap, f, args, b, c, l⟩ := a;refine ⟨j, k, cap, f, args, b, c, l.mono fun e n w' he => ?_⟩;cases e with
    | returned x => exact Leaves.set h ds _ _ he
    | panicked i => exact Leaves.set h ds _ _ he
    | outgrown => exact he
theorem mo {fn : Func}{R : Value → World → Prop}{a : List PanicEntry}{d : Nat}{v : Value}(Ua : (Ct fn).contains d = false) (h : xq P fn R (.panic a) (F (fr.set d v) ds) w) : xq P fn R (.panic a) (F fr ds) w := Leaves.set Ua _ _ _ h
theorem MC {f : FuncId}{fn : Func}{c : Code}{args frm : List Value}{R : Value → World → Prop}(a : P.funcs[f]? = some fn) (b : fn.body = some c)
    (d : args ++ List.replicate (fn.ntmps - args.length) undef = frm) (h : Td P c (xq P fn R) frm [] w) : Pc P f args w R := by
  refine ⟨Calls.mono (calls_of_wp_defers (R := okV R) a b ?_) fun e w he => by cases e<;>exact he⟩;subst d;have ea : (⟨args⟩ : Array Value) ++ Array.replicate (fn.ntmps - args.length) undef = ⟨args ++ List.replicate (fn.ntmps - args.length) undef⟩ := by
    apply Array.ext';simp
  have h := h.out;simpa [F, ea, xq] using h
theorem aw {fn : Func}{R : Value → World → Prop}{a : Act}(h : Ol P fn R .ret a w) : xq P fn R .ret a w := h
structure qx (P : Program) (f : FuncId) (args : List Value) (a : List PanicEntry) (w : World) (R : World → Prop) : Prop where
  out : CallsD P f ⟨args⟩ (.panicking a) w fun e b w' => settle b = .returning ∧ okV (fun _ w' => R w') e w'
theorem wz {fn : Func}{R : Value → World → Prop}{v : Value}{a : World → Prop}{k : FuncId}{cap vs : List Value}(b : Ic P k) (d : qx P k (vs ++ cap) [{ v, recovered := false }] w a) (h : ∀ w', a w' → Ol P fn R .ret (F fr ds) w') :
    xq P fn R (.panic [{ v, recovered := false }]) (F fr (⟨.fn (.func k) ⟨cap⟩, ⟨vs⟩⟩ :: ds)) w := by
  refine ⟨by simp, .func k, ⟨cap⟩, k, ⟨vs ++ cap⟩, rfl, ?_, ?_⟩
  · have := b.out ⟨vs ++ cap⟩ w;simp [invoke, this]
  · refine d.out.mono fun e f w' he => ?_;obtain ⟨hu, he⟩ := he;cases e with
    | returned v =>
      show Leaves P fn ⟨fr⟩ (okV R) ds (settle f) w';rw [hu];exact h w' he
    | panicked c => exact he.elim
    | outgrown => exact he.elim
theorem _root_.Go.Sb.Sep.Lc {a : wb}{l : List wb}(c : Na μ J w (a :: (l ++ rs))) : Na μ J w (a :: rs):= by
  have d : (a :: rs).Sublist (a :: (l ++ rs)):= (List.sublist_append_right _ _).cons_cons a;refine ⟨c.keeps, fun r f => c.all r (d.subset f), (d.filterMap _).nodup c.Yh, fun b g => c.new b ((d.filterMap _).subset g), ?_⟩;refine c.Gi.mono fun k _ e => ⟨e.1, fun hm => e.2 ((d.filterMap wb.block).subset hm)⟩
theorem _root_.Go.Sb.Sep.yy {a b : wb}{l : List wb}(c : Na μ J w (a :: b :: (l ++ rs))) : Na μ J w (a :: b :: rs):= by
  have d : (a :: b :: rs).Sublist (a :: b :: (l ++ rs)):= ((List.sublist_append_right _ _).cons_cons b).cons_cons a;refine ⟨c.keeps, fun r f => c.all r (d.subset f), (d.filterMap _).nodup c.Yh, fun b g => c.new b ((d.filterMap _).subset g), ?_⟩;refine c.Gi.mono fun k _ e => ⟨e.1, fun hm => e.2 ((d.filterMap wb.block).subset hm)⟩
def Sg (μ : M) (J : World) (b : Nat) (T : TypeId) (rs : List wb) : World → Prop := fun w => ∃ (U : M) (v0 v1 : Value) (i : Int), ra μ U ∧ Na U J w (.na b T [v0, v1, .int .i64 i]:: rs)
theorem _root_.Go.Sb.Pm.up {m : Nat}{T : TypeId}{v a : Value}{b : Bool}(h : Pm P m T v a b) : Pm P (m + 1) T v a b := ⟨fun d w Ua => h.out d w (by omega)⟩
end
end Go.ec
namespace Go.ec
theorem ob {α : Type}{a b : α}(h : some a = some b) : a = b := Option.some.inj h
abbrev rg : Nat → Nat → List Nat := fun a b => List.range' a b
end Go.ec
