/- Texts of Xu. -/
import Derived.Test.YticaondbdmcpoaaGreatDoorCXt
import Derived.Laws.IdiomCopy
import Derived.Shelf.Strconv.ParseIntPublic10
import Derived.Lib.IndexMore
import Derived.LaidEql
import Derived.ArgAppend
set_option linter.unusedSimpArgs false
set_option linter.unusedVariables false
set_option linter.unusedSectionVars false
namespace Go.Mc
open Go.hc Go.RowKit
theorem Ua.split {α:Type}[mb α]{μ:M}:∀ {l:List α}{cells:List Value}{i:Nat}{x:α},Ua μ cells l→l[i]?=some x →
  ∃ b cs cd,cells=b++(cs++cd)∧b.length=i*mb.sz α∧mb.cs μ cs x∧∀ (J:M) (a:List Value) (d:α),ha μ J→mb.cs J a d→Ua J (b++(a++cd)) (l.set i d)
 | [],cells,i,x,h,c=>by simp at c
 | y::l,cells,i,x,h,c=>by
  rw [Ua] at h;obtain ⟨cs,t,rfl,f,j⟩:=h;cases i with
  | zero =>
   simp at c;subst c;exact ⟨[],cs,t,rfl,by simp,f,fun J a d oa g=>⟨a,t,rfl,g,j.up oa⟩⟩
  | succ i =>
   simp at c;obtain ⟨b,k,cd,rfl,e,m,st⟩:=Ua.split j c;exact ⟨cs++b,k,cd,by simp,by simp [e,mb.Gi f,Nat.add_mul];omega,m,fun J a d oa g=>⟨cs,b++(a++cd),by simp,mb.up oa f,st J a d oa g⟩⟩
theorem _root_.Go.hc.Row.Uy {α:Type}[mb α]{w:World}{T:TypeId}{n:Nat}{μ:M}{v:Value}{cells:List Value}{l:List α}{i:Int}{x:α}(h:Row w v T (mb.sz α) n cells) (f:Ua μ cells l) (A:l.length=n) (g:at_ l i=some x) :
  ∃ b o a cs cd,cells=a++(cs++cd)∧Mt v (mb.sz α) i b o∧(∀ w T d,Row w v T (mb.sz α) n (a++(d++cd))→d.length=mb.sz α→kj w b o d)∧mb.cs μ cs x∧a.length=i.toNat*mb.sz α ∧
   (∀ (J:M) (d:List Value) (k:α),ha μ J→mb.cs J d k→Ua J (a++(d++cd)) (l.set i.toNat k))∧Ua μ (a++(cs++cd)) l:=by
 obtain ⟨r,B,s⟩:=Ur g;obtain ⟨b,o,c,rfl,C⟩:=h.Sr (by omega);obtain ⟨a,cs,cd,rfl,e,m,st⟩:=f.split s;refine ⟨b,o+i.toNat*mb.sz α,a,cs,cd,rfl,⟨o,_,_,rfl,r,by omega,rfl⟩,?_,m,e,st,f⟩;intro D E d t oa j u p;obtain ⟨ed,F,c',q,y⟩:=t.Sr (by omega);simp at q;obtain ⟨⟨rfl,rfl⟩,rfl⟩:=q;have z:j<d.length:=(List.getElem?_eq_some_iff.1 p).1;have:=y (a.length+j) u (by rw [List.getElem?_append_right (by omega),show a.length+j - a.length=j by omega,List.getElem?_append_left z];exact p);rw [e,← Nat.add_assoc] at this;exact this
section
variable {P:Program}{Q:Exit→Act→World→Prop}{K:List Value→List Deferred→World→Prop}{fr Fa:List Value}{ds:List Deferred}{w:World}
variable {dst:Option Tmp}{ty:TypeId}{pos:String}{after:Array Edge}{g:Option (Nat×Bool)}
variable {da:World}{rs rs':List Qa}{μ J:M}
variable {T:TypeId}
theorem Hf.two {es:List MapEntry}{c:Nat}{k0 k1:List UInt8}{x0 x1:Int}(h:Hf μ es c [(k0,x0),(k1,x1)]) :
  ∃ Td Hd,es=[⟨S k0,.int .i64 x0,Td⟩,⟨S k1,.int .i64 x1,Hd⟩]∧Td<Hd∧Hd<c:=by
 obtain ⟨e,i,j⟩:=h
 match es,e,i,j with
 | [],e,_,_=>simp [Mg] at e
 | [a],e,_,_ =>
  rw [Mg] at e;obtain ⟨k,x,t,g,-,-,f⟩:=e;simp [Mg] at f g;simp [f] at g
 | [a,b],e,i,j =>
  rw [Mg] at e;obtain ⟨k,x,t,g,l,m,f⟩:=e;rw [Mg] at f;obtain ⟨k',s,qc,n,o,p,q⟩:=f;subst n;simp only [List.cons.injEq,Prod.mk.injEq] at g;obtain ⟨⟨rfl,rfl⟩,⟨rfl,rfl⟩,-⟩:=g;obtain ⟨u,v,r⟩:=a;obtain ⟨w,bv,bb⟩:=b;have m:v=.int .i64 x0:=m;have p:bv=.int .i64 x1:=p;have l:u=S k0:=l;have o:w=S k1:=o;subst l o m p;have y:r<bb:=List.rel_of_pairwise_cons j (List.mem_singleton.2 rfl);have z:bb<c:=i ⟨S k1,.int .i64 x1,bb⟩ (by simp);exact ⟨r,bb,rfl,y,z⟩
 | a::b::d::es,e,_,_ =>
  rw [Mg] at e;obtain ⟨k,x,t,g,-,-,f⟩:=e;rw [Mg] at f;obtain ⟨k',s,qc,n,-,-,q⟩:=f;rw [Mg] at q;obtain ⟨B,C,D,A,-,-,-⟩:=q;subst A n;simp at g
theorem ew (w:World) (b:Nat) (o:Obj) (a:b<w.heap.size):ni (fun k=>k≠b) w { w with heap:=w.heap.setIfInBounds b o }∧({ w with heap:=w.heap.setIfInBounds b o }:World).heap[b]?=some o :=
 ⟨⟨rfl,rfl,rfl,by simp,fun j _ c=>by simp [Array.getElem?_setIfInBounds,Ne.symm c]⟩,by simp [a]⟩
theorem bH {x:Operand}{b m c f k Td Hd:Nat}{a0 v0 na v1:Value}(l:qb fr x (.pointer (some ⟨b,0,none⟩))) (d:ja μ da w rs) (h:vc rs f (.Nl b m c [] c)) (hm:vc rs k (.map m [⟨a0,v0,Td⟩,⟨na,v1,Hd⟩] c)) (y:Td<Hd) (n:Hd<c)
  (u:∀ w' rs',zc rs f (.Nl b m c [Td] c) rs'→ja μ da w' rs'→Bh fr dst (.tuple ⟨[.bool true,a0,v0]⟩) fun Fa=>K Fa ds w')
  (hB:∀ w' rs',zc rs f (.Nl b m c [Hd] c) rs'→ja μ da w' rs'→Bh fr dst (.tuple ⟨[.bool true,na,v1]⟩) fun Fa=>K Fa ds w') :
  Md P (Oper.mk dst (.next x false) ty pos after g) fr ds w K Q:=by
 have e:w.heap[b]?=some (.mapIter (some m) c ⟨[]⟩ c):=d.get h;have o:w.heap[m]?=some (.map ⟨[⟨a0,v0,Td⟩,⟨na,v1,Hd⟩]⟩ c):=d.get hm;have p:b<w.heap.size:=(Array.getElem?_eq_some_iff.1 e).1;have q:w.drew.heap[b]?=some (.mapIter (some m) c ⟨[]⟩ c):=e;have r:Td<c:=by omega
 have s:¬ Td ≥ c:=by omega
 have t:¬ Hd ≥ c:=by omega
 by_cases La:(w.tape w.drawn (.mapNext 2)) % 2=0
 ·obtain ⟨i,j⟩:=ew w.drew b (.mapIter (some m) c ⟨[Td]⟩ c) p;obtain ⟨Fa,a⟩:=Wi fr dst (.tuple ⟨[.bool true,a0,v0]⟩);refine Oh (w':={ w.drew with heap:=w.drew.heap.setIfInBounds b (.mapIter (some m) c ⟨[Td]⟩ c) }) ?_ a (u _ _ rfl ((d.drew (w':=w.drew) rfl rfl rfl rfl).put (b:=b) h rfl rfl rfl j i) Fa a);simp [execOp,l ds,Instr.next,getObj,setObj,Sem.run,e,o,Result.andThen,r,n,s,t,choose,Question.forced,Question.cut,La,q]
 ·have v:(w.tape w.drawn (.mapNext 2)) % 2=1:=by omega
  obtain ⟨i,j⟩:=ew w.drew b (.mapIter (some m) c ⟨[Hd]⟩ c) p;obtain ⟨Fa,a⟩:=Wi fr dst (.tuple ⟨[.bool true,na,v1]⟩);refine Oh (w':={ w.drew with heap:=w.drew.heap.setIfInBounds b (.mapIter (some m) c ⟨[Hd]⟩ c) }) ?_ a (hB _ _ rfl ((d.drew (w':=w.drew) rfl rfl rfl rfl).put (b:=b) h rfl rfl rfl j i) Fa a);simp [execOp,l ds,Instr.next,getObj,setObj,Sem.run,e,o,Result.andThen,r,n,s,t,choose,Question.forced,Question.cut,v,q]
theorem cH {x:Operand}{b m c d k Td Hd:Nat}{a0 v0 na v1:Value}(l:qb fr x (.pointer (some ⟨b,0,none⟩))) (a:ja μ da w rs) (e:vc rs d (.Nl b m c [Td] c)) (hm:vc rs k (.map m [⟨a0,v0,Td⟩,⟨na,v1,Hd⟩] c)) (A:Td<Hd) (n:Hd<c)
  (o:∀ w' rs',zc rs d (.Nl b m c [Td,Hd] c) rs'→ja μ da w' rs'→Bh fr dst (.tuple ⟨[.bool true,na,v1]⟩) fun Fa=>K Fa ds w') :
  Md P (Oper.mk dst (.next x false) ty pos after g) fr ds w K Q:=by
 have f:w.heap[b]?=some (.mapIter (some m) c ⟨[Td]⟩ c):=a.get e;have p:w.heap[m]?=some (.map ⟨[⟨a0,v0,Td⟩,⟨na,v1,Hd⟩]⟩ c):=a.get hm;have q:b<w.heap.size:=(Array.getElem?_eq_some_iff.1 f).1;have r:¬ Td ≥ c:=by omega
 have s:¬ Hd ≥ c:=by omega
 have t:¬ ∀ (i:Nat) (x:i<2),c≤([⟨a0,v0,Td⟩,⟨na,v1,Hd⟩]:List MapEntry)[i].born:=fun h=>by have:=h 0 (by decide);simp at this;omega
 have u:¬ Hd=Td:=by omega
 have v:¬ Td=Hd:=by omega
 obtain ⟨y,z⟩:=ew w b (.mapIter (some m) c ⟨[Td,Hd]⟩ c) q;obtain ⟨Fa,j⟩:=Wi fr dst (.tuple ⟨[.bool true,na,v1]⟩);refine Oh (w':={ w with heap:=w.heap.setIfInBounds b (.mapIter (some m) c ⟨[Td,Hd]⟩ c) }) ?_ j (o _ _ rfl (a.put (b:=b) e rfl rfl rfl z y) Fa j);simp [execOp,l ds,Instr.next,getObj,setObj,Sem.run,f,p,Result.andThen,n,r,s,u,v,t,choose,Question.forced]
theorem bG {x:Operand}{b m c d k Td Hd:Nat}{a0 v0 na v1:Value}(l:qb fr x (.pointer (some ⟨b,0,none⟩))) (a:ja μ da w rs) (e:vc rs d (.Nl b m c [Hd] c)) (hm:vc rs k (.map m [⟨a0,v0,Td⟩,⟨na,v1,Hd⟩] c)) (A:Td<Hd) (B:Hd<c)
  (n:∀ w' rs',zc rs d (.Nl b m c [Hd,Td] c) rs'→ja μ da w' rs'→Bh fr dst (.tuple ⟨[.bool true,a0,v0]⟩) fun Fa=>K Fa ds w') :
  Md P (Oper.mk dst (.next x false) ty pos after g) fr ds w K Q:=by
 have f:w.heap[b]?=some (.mapIter (some m) c ⟨[Hd]⟩ c):=a.get e;have o:w.heap[m]?=some (.map ⟨[⟨a0,v0,Td⟩,⟨na,v1,Hd⟩]⟩ c):=a.get hm;have p:b<w.heap.size:=(Array.getElem?_eq_some_iff.1 f).1;have q:Td<c:=by omega
 have r:¬ Td ≥ c:=by omega
 have s:¬ Hd ≥ c:=by omega
 have t:¬ ∀ (i:Nat) (x:i<2),c≤([⟨a0,v0,Td⟩,⟨na,v1,Hd⟩]:List MapEntry)[i].born:=fun h=>by have:=h 0 (by decide);simp at this;omega
 have u:¬ Hd=Td:=by omega
 have v:¬ Td=Hd:=by omega
 obtain ⟨y,z⟩:=ew w b (.mapIter (some m) c ⟨[Hd,Td]⟩ c) p;obtain ⟨Fa,j⟩:=Wi fr dst (.tuple ⟨[.bool true,a0,v0]⟩);refine Oh (w':={ w with heap:=w.heap.setIfInBounds b (.mapIter (some m) c ⟨[Hd,Td]⟩ c) }) ?_ j (n _ _ rfl (a.put (b:=b) e rfl rfl rfl z y) Fa j);simp [execOp,l ds,Instr.next,getObj,setObj,Sem.run,f,o,Result.andThen,q,r,s,u,v,t,choose,Question.forced]
theorem KB {x:Operand}{b m c d k Td Hd p q:Nat}{a0 v0 na v1:Value}(e:qb fr x (.pointer (some ⟨b,0,none⟩))) (a:ja μ da w rs) (f:vc rs d (.Nl b m c [p,q] c)) (hm:vc rs k (.map m [⟨a0,v0,Td⟩,⟨na,v1,Hd⟩] c)) (v:Td<Hd) (y:Hd<c) (j:p=Td∧q=Hd∨p=Hd∧q=Td)
  (La:ef fr dst (.tuple ⟨[.bool false]⟩) Fa) (h:K Fa ds w) :
  Md P (Oper.mk dst (.next x false) ty pos after g) fr ds w K Q:=by
 have l:w.heap[b]?=some (.mapIter (some m) c ⟨[p,q]⟩ c):=a.get f;have n:w.heap[m]?=some (.map ⟨[⟨a0,v0,Td⟩,⟨na,v1,Hd⟩]⟩ c):=a.get hm;have o:¬ Td ≥ c:=by omega
 have r:¬ Hd ≥ c:=by omega
 have s:¬ ∀ (i:Nat) (x:i<2),c≤([⟨a0,v0,Td⟩,⟨na,v1,Hd⟩]:List MapEntry)[i].born:=fun h=>by have:=h 0 (by decide);simp at this;omega
 have t:¬ Hd=Td:=by omega
 have u:¬ Td=Hd:=by omega
 refine Oh (w':=w) ?_ La h;rcases j with ⟨rfl,rfl⟩ | ⟨rfl,rfl⟩<;>simp [execOp,e ds,Instr.next,getObj,setObj,Sem.run,l,n,Result.andThen,o,r,t,u,s,choose,Question.forced]
theorem qw {x:Operand}{b m c d k Td Hd:Nat}{a0 v0 na v1:Value}{seen:List Nat}{e:MapEntry}(f:qb fr x (.pointer (some ⟨b,0,none⟩))) (a:ja μ da w rs) (i:vc rs d (.Nl b m c seen c)) (hm:vc rs k (.map m [⟨a0,v0,Td⟩,⟨na,v1,Hd⟩] c)) (r:Td<Hd)
  (j:seen.getLast?=some e.born) (he:e=⟨a0,v0,Td⟩∨e=⟨na,v1,Hd⟩) (La:ef fr dst (.tuple ⟨[e.key,e.val]⟩) Fa) (h:K Fa ds w) :
  Md P (Oper.mk dst (.entry x) ty pos after g) fr ds w K Q:=by
 have l:w.heap[b]?=some (.mapIter (some m) c ⟨seen⟩ c):=a.get i;have n:w.heap[m]?=some (.map ⟨[⟨a0,v0,Td⟩,⟨na,v1,Hd⟩]⟩ c):=a.get hm;have o:¬ Hd=Td:=by omega
 have p:¬ Td=Hd:=by omega
 have q:(⟨seen⟩:Array Nat).back?=some e.born:=by rw [← j];simp [Array.back?,List.getLast?_eq_getElem?]
 refine Oh (w':=w) ?_ La h;rcases he with rfl | rfl<;>simp [execOp,f ds,Instr.entry,getObj,Sem.run,l,n,Result.andThen,q,o,p]
end
end Go.Mc
namespace Go.Mc
open Go.hc Go.RowKit
section
variable {P:Program}{Q:Exit→Act→World→Prop}{K:List Value→List Deferred→World→Prop}{fr Fa:List Value}{ds:List Deferred}{w:World}
variable {dst:Option Tmp}{ty:TypeId}{pos:String}{after:Array Edge}{g:Option (Nat×Bool)}
structure hy (P:Program) (f:FuncId) (args:List Value) (w:World) (R:Value→World→Prop):Prop where
 out:CallsD P f ⟨args⟩ .returning w fun e a w'=>a=.returning∧okV R e w'
theorem cD {fn:Func}{R a:Value→World→Prop}{k:FuncId}{cap vs:List Value}(b:jc P k) (d:hy P k (vs++cap) w a) (h:∀ v w',a v w'→Jq P fn R .ret (F fr ds) w') :
  Jq P fn R .ret (F fr (⟨.fn (.func k) ⟨cap⟩,⟨vs⟩⟩::ds)) w:=by
 refine ⟨by simp,.func k,⟨cap⟩,k,⟨vs++cap⟩,rfl,?_,?_⟩
 ·have:=b.out ⟨vs++cap⟩ w;simp [invoke,this]
 ·refine d.out.mono fun e f w' he=>?_;obtain ⟨rfl,he⟩:=he;cases e with
  | returned v=>exact h v w' he
  | panicked c=>exact he.elim
  | outgrown=>exact he.elim
theorem vI {P:Program}{T:TypeId}{ms:Array (String×TypeId)}{v:Value}{b:Bool}(hu:P.underlying T=some (.interface ms)) (e:(v=.nilIface∧b=true)∨((∃ a c,v=.iface a c)∧b=false)):Lt P 1 T v .nilIface b:=⟨fun d w La=>by
 cases d with
 | zero=>omega
 | succ d=>rcases e with ⟨rfl,rfl⟩ | ⟨⟨a,c,rfl⟩,rfl⟩ <;> simp [Op.equalIn,run_underlying hu]⟩
theorem zy {x:Operand}{t qc:TypeId}{v:Value}{b:Bool}{ms:Array (String×TypeId)}(hu:P.underlying t=some (.interface ms)) (e:qb fr x v) (d:(v=.nilIface∧b=true)∨((∃ a c,v=.iface a c)∧b=false)) (f:ef fr dst (.bool b) Fa) (k:K Fa ds w) :
  Md P (Oper.mk dst (.binOp .eql t x (.const .nilIface) qc) ty pos after g) fr ds w K Q:=by
 refine Ra ⟨fun ds w=>?_⟩ f k;have h:=e ds;have i:(F fr ds).eval (.const .nilIface)=.nilIface:=rfl;have j:=(vI hu d).out Op.maxDepth w (by decide);rcases d with ⟨rfl,rfl⟩ | ⟨⟨a,c,rfl⟩,rfl⟩<;>simp [execOp,h,i,eqGuard,binOp,Op.equal,j]
end
end Go.Mc
namespace Go.Mc
open Go.hc Go.RowKit
def WK (agg:Bool) (cs:List Value):Value:=if agg then .agg ⟨cs⟩ else cs.headD undef
structure Vw (P:Program) (I:M) (K:Nat) (Ft:List Value){α:Type}[mb α] (agg:Bool) (e:α→Option Bool):Prop where
 oD:jc P K
 call:∀ {a:M}{da c:World}{rs:List Qa}{x:α}{b:Bool}{cs:List Value},ha I a→mb.cs a cs x→e x=some b→ja a da c rs→Ic P K ([WK agg cs]++Ft) c (fun v w'=>∃ d,v=.bool b∧ha a d∧ja d da w' rs)
theorem Vw.up {P:Program}{μ J:M}{K:Nat}{Ft:List Value}{α:Type}[mb α]{agg:Bool}{a:α→Option Bool}(h:Vw P μ K Ft agg a) (l:ha μ J):Vw P J K Ft agg a:=⟨h.oD,fun oa=>h.call (l.t oa)⟩
end Go.Mc
namespace Go.Mc
open Go.hc Go.RowKit
section
variable {P:Program}{Q:Exit→Act→World→Prop}{K:List Value→List Deferred→World→Prop}{fr Fa:List Value}{ds:List Deferred}{w w':World}
variable {dst:Option Tmp}{ty:TypeId}{pos:String}{after:Array Edge}{g:Option (Nat×Bool)}
variable {da:World}{rs rs':List Qa}{μ J:M}
variable {T:TypeId}{d:TypeDesc}{od:Bool}{Bd:List Value}{n m:Nat}
def Gt (a b:Int):Option Int:=if b=0 then none else some (a.tmod b)
theorem sw {a b c:Int}(h:Gt a b=some c):b≠0∧a.tmod b=c:=by
 unfold Gt at h;split at h
 ·cases h
 ·rename_i d;exact ⟨d,Option.some.inj h⟩
theorem tC {x y:Operand}{t qc:TypeId}{d:TypeDesc}{a b:Int}(hu:P.underlying t=some d) (c:qb fr x (.int .i64 a)) (f:qb fr y (.int .i64 b)):Lf P (Oper.mk dst (.call { callee:=.builtin .min,args:=#[x,y],argTypes:=#[t,qc] }) ty pos after g) fr (.int .i64 (min a b)):=⟨fun ds w=>by
 have i:=c ds;have j:=f ds;have e:min a b=if b<a then b else a:=by simp only [Int.min_def];split<;>split<;>omega
 rw [e];by_cases h:b<a<;>simp [execOp,resolve,invoke,builtin,i,j,Builtin.min_,Builtin.min2,h]⟩
theorem uC {x y:Operand}{t qc:TypeId}{d:TypeDesc}{a b:Int}(hu:P.underlying t=some d) (c:qb fr x (.int .i64 a)) (f:qb fr y (.int .i64 b)):Lf P (Oper.mk dst (.call { callee:=.builtin .max,args:=#[x,y],argTypes:=#[t,qc] }) ty pos after g) fr (.int .i64 (max a b)):=⟨fun ds w=>by
 have i:=c ds;have j:=f ds;have e:max a b=if a<b then b else a:=by simp only [Int.max_def];split<;>split<;>omega
 rw [e];by_cases h:a<b<;>simp [execOp,resolve,invoke,builtin,i,j,Builtin.max_,Builtin.max2,h]⟩
end
end Go.Mc
namespace Go.Mc
open Go.hc Go.RowKit
instance:mb UInt8 where
 sz:=1
 pos:=by decide
 cs _ l x:=l=[.int .u8 x.toNat]
 Gi h:=by rw [h];rfl
 up _ h:=h
 Fh h:=by rw [h];rfl
def qz (l:List UInt8):Option Int:=if l.length≤9223372036854775806 then (match Lib.parseIntB 64 l with | .ok v=>some v | _=>none) else none
def Ow (l sub:List UInt8):Option Bool:=if l.length<4294967281 then some (Lib.contains l sub) else none
end Go.Mc
namespace Go.Mc
open Go.hc Go.RowKit
section
variable {P:Program}{Q:Exit→Act→World→Prop}{K:List Value→List Deferred→World→Prop}{fr Fa:List Value}{ds:List Deferred}{w:World}
variable {dst:Option Tmp}{ty:TypeId}{pos:String}{after:Array Edge}{g:Option (Nat×Bool)}
variable {da:World}{rs rs':List Qa}{μ J:M}{rb α:Type}
def pD (V:rb→Value) (r:Except rb α) (R:α→Value→World→Prop) (E:World→Prop):Ending→World→Prop
 | .returned v,w=>∃ x,r=.ok x∧R x v w
 | .panicked a,w=>∃ e,r=.error e∧a=[{ v:=V e,recovered:=false }]∧E w
 | .outgrown,_=>False
structure Bc (P:Program) (f:FuncId) (args:List Value) (w:World) (V:rb→Value) (r:Except rb α) (R:α→Value→World→Prop) (E:World→Prop):Prop where
 out:Calls P f ⟨args⟩ w (pD V r R E)
def Kq (P:Program) (fn:Func) (V:rb→Value) (r:Except rb α) (R:α→Value→World→Prop) (E:World→Prop):Exit→Act→World→Prop:=bodyPost P fn (pD V r R E)
theorem Ze {f:FuncId}{fn:Func}{c:Code}{args frm:List Value}{V:rb→Value}{r:Except rb α}{R:α→Value→World→Prop}{E:World→Prop}(a:P.funcs[f]?=some fn) (b:fn.body=some c)
  (d:args++List.replicate (fn.ntmps - args.length) undef=frm) (h:Ae P c (Kq P fn V r R E) frm [] w):Bc P f args w V r R E:=by
 refine ⟨calls_of_wp a b ?_⟩;subst d;have:(⟨args⟩:Array Value)++Array.replicate (fn.ntmps - args.length) undef=⟨args++List.replicate (fn.ntmps - args.length) undef⟩:=by
  apply Array.ext';simp
 have h:=h.out;simpa [F,Kq,this] using h
variable {fn:Func}{V:rb→Value}{x:α}{r:Except rb α}{R:α→Value→World→Prop}{E:World→Prop}
theorem XK {a:Act}(h:xp P fn (R x) .ret a w):Kq P fn V (.ok x) R E .ret a w:=by
 obtain ⟨b,v,c,d⟩:=h;exact ⟨b,v,c,x,rfl,d⟩
theorem GK {a:Act}(h:xp P fn (R x) .normal a w):Kq P fn V (.ok x) R E .normal a w:=by
 obtain ⟨b,v,c,d⟩:=h;exact ⟨b,v,c,x,rfl,d⟩
theorem Gz {e:rb}(h:E w):Kq P fn V (.error e) R E (.panic [{ v:=V e,recovered:=false }]) (F fr []) w:=⟨rfl,e,rfl,rfl,h⟩
def Ct (P:Program) (fn:Func) (R:Value→World→Prop):Exit→Act→World→Prop:=bodyPostD P fn (okV R)
def Ew (fn:Func):List Nat:=fn.results.toList.map fun r=>match r with | .tmp t=>t | .cell a _=>a
theorem RE {b:List Value}{d:Nat}{v:Value}{r:ResultVar}(h:(match r with | .tmp t=>t | .cell a _=>a)≠d):Gm ⟨b.set d v⟩ r=Gm ⟨b⟩ r:=by
 cases r with
 | tmp t =>
  have:t≠d:=h;simp [Gm,List.getElem?_set,Ne.symm this]
 | cell a t =>
  have:a≠d:=h;simp [Gm,List.getElem?_set,Ne.symm this]
theorem nE {fn:Func}{b:List Value}{d:Nat}{v:Value}(h:(Ew fn).contains d=false):results fn ⟨b.set d v⟩=results fn ⟨b⟩:=by
 rw [Cx,Cx];have key:∀ l:List ResultVar,(∀ r ∈ l,(match r with | .tmp t=>t | .cell a _=>a)≠d)→l.mapM (Gm ⟨b.set d v⟩)=l.mapM (Gm ⟨b⟩):=by
  intro l oa
  induction l with
  | nil=>rfl
  | cons r l f =>
   rw [List.mapM_cons,List.mapM_cons,RE (oa r (by simp)),f fun r c=>oa r (by simp [c])]
 have g:∀ r ∈ fn.results.toList,(match r with | .tmp t=>t | .cell a _=>a)≠d:=by
  intro r c e;have:d ∈ Ew fn:=List.mem_map.2 ⟨r,c,e⟩;simp [List.contains_iff_mem,this] at h
 rw [Array.mapM_eq_mapM_toList,Array.mapM_eq_mapM_toList,key _ g]
theorem Leaves.set {fn:Func}{c:List Value}{d:Nat}{v:Value}{R:Ending→World→Prop}(h:(Ew fn).contains d=false):∀ (ds:List Deferred) (u:FrameMode) (w:World),Leaves P fn ⟨c.set d v⟩ R ds u w→Leaves P fn ⟨c⟩ R ds u w
 | [],.returning,w,oa=>by
  obtain ⟨x,a,b⟩:=oa;exact ⟨x,by rw [← a,nE h],b⟩
 | [],.panicking g,w,oa=>oa
 | [],.run,w,oa=>oa
 | l::ds,u,w,oa=>by
  obtain ⟨i,j,cap,f,args,a,b,k⟩:=oa;refine ⟨i,j,cap,f,args,a,b,k.mono fun e m w' he=>?_⟩;cases e with
  | returned x=>exact Leaves.set h ds _ _ he
  | panicked g=>exact Leaves.set h ds _ _ he
  | outgrown=>exact he
theorem ss {fn:Func}{R:Value→World→Prop}{a:List PanicEntry}{d:Nat}{v:Value}(La:(Ew fn).contains d=false) (h:Ct P fn R (.panic a) (F (fr.set d v) ds) w):Ct P fn R (.panic a) (F fr ds) w:=Leaves.set La _ _ _ h
theorem dH {f:FuncId}{fn:Func}{c:Code}{args frm:List Value}{R:Value→World→Prop}(a:P.funcs[f]?=some fn) (b:fn.body=some c)
  (d:args++List.replicate (fn.ntmps - args.length) undef=frm) (h:Ae P c (Ct P fn R) frm [] w):Ic P f args w R:=by
 refine ⟨Calls.mono (calls_of_wp_defers (R:=okV R) a b ?_) fun e w he=>by cases e<;>exact he⟩;subst d;have ia:(⟨args⟩:Array Value)++Array.replicate (fn.ntmps - args.length) undef=⟨args++List.replicate (fn.ntmps - args.length) undef⟩:=by
  apply Array.ext';simp
 have h:=h.out;simpa [F,ia,Ct] using h
theorem ED {fn:Func}{R:Value→World→Prop}{a:Act}(h:Jq P fn R .ret a w):Ct P fn R .ret a w:=h
structure oB (P:Program) (f:FuncId) (args:List Value) (a:List PanicEntry) (w:World) (R:World→Prop):Prop where
 out:CallsD P f ⟨args⟩ (.panicking a) w fun e b w'=>settle b=.returning∧okV (fun _ w'=>R w') e w'
theorem YK {fn:Func}{R:Value→World→Prop}{v:Value}{a:World→Prop}{k:FuncId}{cap vs:List Value}(b:jc P k) (d:oB P k (vs++cap) [{ v,recovered:=false }] w a) (h:∀ w',a w'→Jq P fn R .ret (F fr ds) w') :
  Ct P fn R (.panic [{ v,recovered:=false }]) (F fr (⟨.fn (.func k) ⟨cap⟩,⟨vs⟩⟩::ds)) w:=by
 refine ⟨by simp,.func k,⟨cap⟩,k,⟨vs++cap⟩,rfl,?_,?_⟩
 ·have:=b.out ⟨vs++cap⟩ w;simp [invoke,this]
 ·refine d.out.mono fun e f w' he=>?_;obtain ⟨hu,he⟩:=he;cases e with
  | returned v =>
   show Leaves P fn ⟨fr⟩ (okV R) ds (settle f) w';rw [hu];exact h w' he
  | panicked c=>exact he.elim
  | outgrown=>exact he.elim
end
end Go.Mc
namespace Go.Mc
open Go.hc Go.RowKit
section
variable {P:Program}{Q:Exit→Act→World→Prop}{K:List Value→List Deferred→World→Prop}{fr Fa:List Value}{ds:List Deferred}{w:World}
variable {dst:Option Tmp}{ty:TypeId}{pos:String}{after:Array Edge}{g:Option (Nat×Bool)}{rb α:Type}
variable {V:rb→Value}{r:Except rb α}{R:α→Value→World→Prop}{E:World→Prop}
theorem Kf {f:Operand}{xs:List Operand}{tys:Array TypeId}{k:FuncId}{cap vs:List Value}(d:jc P k) (i:qb fr f (.func (.func k) #[] ⟨cap⟩)) (j:ll fr xs vs)
  (l:Bc P k (vs++cap) w V r R E) (h:∀ x v w',r=.ok x→R x v w'→Bh fr dst v fun Fa=>K Fa ds w') (he:∀ e w',r=.error e→E w'→Q (.panic [{ v:=V e,recovered:=false }]) (F fr ds) w'):Md P (Oper.mk dst (.call { callee:=.value f,args:=⟨xs⟩,argTypes:=tys }) ty pos after g) fr ds w K Q:=by
 constructor;intro o m;have n:=Rx (w:=w) (dst:=dst) (ty:=ty) (pos:=pos) (after:=after) (g:=g) (tys:=tys) (ds:=ds) (cap:=cap) d i j;unfold Oper.wp;rw [n,Oper.upon_enter];exact Calls.mono l.out fun e w' a=>by
  cases e with
  | returned v =>
   obtain ⟨x,b,c⟩:=a;obtain ⟨Fa,La⟩:=Wi fr dst v;exact La.rw (m _ _ _ (h x v w' b c Fa La))
  | panicked p =>
   obtain ⟨e,b,rfl,c⟩:=a;exact he e w' b c
  | outgrown=>exact a.elim
theorem Pf {fn:Func}{e:rb}(a:r=.error e) (h:E w):Kq P fn V r R E (.panic [{ v:=V e,recovered:=false }]) (F fr []) w:=by subst a;exact Gz h
theorem Tf {fn:Func}{t:Tmp}{x:α}{v:Value}(a:fn.results=#[.tmp t]) (oa:vc fr t v) (b:r=.ok x) (h:R x v w):Kq P fn V r R E .ret (F fr []) w:=by subst b;exact XK (Yb a oa h)
theorem zn {fn:Func}{t:Tmp}{v:Value}(a:fn.results=#[.tmp t]) (oa:vc fr t v) (h:∃ x,r=.ok x∧R x v w):Kq P fn V r R E .ret (F fr []) w:=by obtain ⟨x,b,h⟩:=h;exact Tf a oa b h
end
section
variable {P:Program}{Q:Exit→Act→World→Prop}{K:List Value→List Deferred→World→Prop}{fr Fa:List Value}{ds:List Deferred}{w:World}
variable {dst:Option Tmp}{ty:TypeId}{pos:String}{after:Array Edge}{g:Option (Nat×Bool)}
theorem wI {x y:Operand}{t qc b:TypeId}{od:Bool}{Bd:List Value}{n m:Nat}{a:Addr}(c:P.underlying t=some (.pointer b)) (e:Oc P b od Bd n m)
  (f:qb fr x (.pointer (some a))) (i:qb fr y (.pointer (some a))) (La:ef fr dst (.bool true) Fa) (h:K Fa ds w):Md P (Oper.mk dst (.binOp .eql t x y qc) ty pos after g) fr ds w K Q:=by
 obtain ⟨j,-,k,-⟩:=e.inf;refine Oh (w':=w) ?_ La h;have ia:=f ds;have l:=i ds;have o:∀ d:Nat,(Op.equalIn (d+1) t (.pointer (some a)) (.pointer (some a))).run P w=.ok true w:=fun d=>by
  simp [Op.equalIn,run_underlying c,sizeOf,typeInfo,k,run_sameAddr_same]
 have p:(Op.equalIn Op.maxDepth t (.pointer (some a)) (.pointer (some a))).run P w=.ok true w:=o 9999;simp [execOp,ia,l,eqGuard,binOp,Op.equal,p]
theorem vC {x y:Operand}{t qc c e Ca:TypeId}{od:Bool}{Bd:List Value}{n m:Nat}{a b:Nat}{Rb f:List Value}(i:P.underlying t=some (.pointer c)) (k:Oc P c od Bd n m) (l:n≠0) (o:a≠b) (p:Gj w a e Rb) (q:Gj w b Ca f)
  (r:qb fr x (.pointer (some ⟨a,0,none⟩))) (s:qb fr y (.pointer (some ⟨b,0,none⟩))) (La:ef fr dst (.bool false) Fa) (h:K Fa ds w):Md P (Oper.mk dst (.binOp .eql t x y qc) ty pos after g) fr ds w K Q:=by
 obtain ⟨j,z,u,-,-,v,-⟩:=k.inf;have A:j.size≠0:=by rw [v];exact l
 refine Oh (w':=w) ?_ La h;have ia:=r ds;have B:=s ds;have Xa:(sameAddr ⟨a,0,none⟩ ⟨b,0,none⟩).run P w=.ok false w:=run_sameAddr_other w (fun h=>by cases h;exact o rfl) p q;have C:∀ d:Nat,(Op.equalIn (d+1) t (.pointer (some ⟨a,0,none⟩)) (.pointer (some ⟨b,0,none⟩))).run P w=.ok false w:=fun d=>by
  simp [Op.equalIn,run_underlying i,sizeOf,typeInfo,u,A,Xa]
 have D:(Op.equalIn Op.maxDepth t (.pointer (some ⟨a,0,none⟩)) (.pointer (some ⟨b,0,none⟩))).run P w=.ok false w:=C 9999;simp [execOp,ia,B,eqGuard,binOp,Op.equal,D]
theorem wC {x:Operand}{t qc:TypeId}{v:Value}{b:Bool}{Yt:TypeDesc}(a:P.underlying t=some Yt) (e:(match Yt with | .func _ _ _=>true | _=>false)=true) (f:(v=.nilFunc∧b=false)∨((∃ k c d,v=.func k c d)∧b=true))
  (i:qb fr x v) (La:ef fr dst (.bool b) Fa) (h:K Fa ds w):Md P (Oper.mk dst (.binOp .neq t x (.const .nilFunc) qc) ty pos after g) fr ds w K Q:=by
 refine Oh (w':=w) ?_ La h;have ia:=i ds;have j:(F fr ds).eval (.const .nilFunc)=.nilFunc:=rfl;have l:∀ d:Nat,(Op.equalIn (d+1) t v .nilFunc).run P w=.ok (!b) w:=fun d=>by
  rcases f with ⟨rfl,rfl⟩ | ⟨⟨k,c,d,rfl⟩,rfl⟩<;>cases Yt<;>simp at e<;>simp [Op.equalIn,run_underlying a]
 have m:(Op.equalIn Op.maxDepth t v .nilFunc).run P w=.ok (!b) w:=l 9999;simp [execOp,ia,j,eqGuard,binOp,Op.equal,m]
end
section
variable {P:Program}{Q:Exit→Act→World→Prop}{K:List Value→List Deferred→World→Prop}{fr Fa:List Value}{ds:List Deferred}{w da:World}
variable {dst:Option Tmp}{ty:TypeId}{pos:String}{after:Array Edge}{g:Option (Nat×Bool)}{μ:M}{rs:List Qa}{T:TypeId}{od:Bool}{Bd:List Value}
theorem dD {α:Type}[mb α]{x y z:Operand}{a:Option Addr}{c m:Nat}{xs:List α}{e:TypeId}(f:P.underlying T=some (.slice e)) (i:Oc P e od Bd (mb.sz α) m) (j:qb fr x (.slice a xs.length c)) (k:qb fr y (.int .i64 xs.length)) (l:qb fr z (.int .i64 xs.length)) (h:Na μ a c xs) :
  Lf P (Oper.mk dst (.slice T x none (some y) (some z)) ty pos after g) fr (.slice a xs.length xs.length):=by
 refine ⟨fun ds w=>?_⟩;have hle:=h.le;have ia:((xs.length:Nat):Int)≤(c:Int):=by omega
 have Xa:(if xs.length=0 then a else a.map (·.add (0*mb.sz α)))=a:=by
  rcases h.el with rfl | ⟨b,o,rfl,-⟩
  ·simp
  ·split<;>simp [Addr.add]
 have d:(execOp (F fr ds).eval (Oper.mk dst (.slice T x none (some y) (some z)) ty pos after g)).run P w=.ok (.value (.slice (if xs.length=0 then a else a.map (·.add (0*mb.sz α))) xs.length xs.length)) w:=by
  simp [execOp,j ds,k ds,l ds,Instr.sliceAt,Instr.slice,run_underlying f,Instr.sliceBounds,Instr.sliceBound,asIntOf,i.sizeOf,hle]
 rw [Xa] at d;exact d
theorem Na.full {α:Type}[mb α]{a:Option Addr}{c:Nat}{xs:List α}(h:Na μ a c xs):Na μ a xs.length xs:=⟨Nat.le_refl _,Nat.le_trans h.le h.cap,h.el⟩
theorem xC {α:Type}[mb α]{t:TypeId}{s x:Operand}{bytes b y c:Nat}{a:Option Addr}{news:List Value}{xs ys A:List α}(G:P.underlying t=some (.slice T)) (H:Oc P T od Bd (mb.sz α) bytes) (L:Bd.length=mb.sz α)
  (M:qb fr s (.slice a xs.length xs.length)) (N:qb fr x (.slice (some ⟨b,0,none⟩) y c)) (hm:Na μ a xs.length xs) (d:ja μ da w rs) (O:kj w b 0 news) (o:Ua μ news ys) (Z:ys.length=y) (Pi:0<y) (bb:app xs ys=some A) (R:bytes≤4096)
  (h:∀ l S w',Ua μ S A→ja μ da w' (.row l T (mb.sz α) A.length S::rs)→Bh fr dst l fun Fa=>K Fa ds w') :
  Md P (Oper.mk dst (.call { callee:=.builtin .append,args:=#[s,x],argTypes:=#[t,t] }) ty pos after g) fr ds w K Q:=by
 obtain ⟨rfl,U⟩:=Cu bb;obtain ⟨p,B,Gb⟩:=Na.cells hm;subst Z;have hlen:=o.len;have gc:(xs.length+ys.length)*bytes≤140737488355328:=Nat.le_trans (Nat.mul_le_mul U R) (by decide);have lc:a=none→xs=[]:=fun rc=>by
  rcases hm.el with q | ⟨ed,fd,q,-⟩
  ·exact q
  ·rw [rc] at q;cases q
 cases a with
 | none =>
  have:=lc rfl;subst this;refine bw (k:=0) (n:=0) (xs:=[]) G H (by simp [L,mb.pos]) M N (d.Fm T (mb.sz α)) rfl O hlen o.Fh ⟨by simpa using U,R⟩ fun l w' rs' id md=>?_;cases (show _=rs' from id);exact h l news w' o (by simpa using md)
 | some V =>
  obtain ⟨i,z,ia,C,nd,rd,wd⟩:∃ (i:TypeInfo) (z:Value),P.info? T=some i∧i.zero=some z∧i.size=mb.sz α∧i.bytes=bytes∧z.cells.size=mb.sz α:=by
   obtain ⟨i,z,Fd,Id,be,ce,ge⟩:=H.inf;exact ⟨i,z,Fd,Id,ce,ge,by rw [be];exact L⟩
  have hold:∀ j u,p[j]?=some u→w.cell? (V.add j)=some u:=fun j u hu=>by
   have D:xs≠[]:=by
    rintro rfl;have:p=[]:=B;subst this;simp at hu
   obtain ⟨ed,fd,he,le⟩:=Gb D;cases he;rw [Zj];exact le _ d.a j u hu
  obtain ⟨l,w',ne,Ne,e⟩:=run_append_arg_grows (P:=P) w t ty T i z (mb.sz α) bytes G ia C nd rd wd mb.pos V xs.length xs.length p B.len hold ⟨b,0,none⟩ ys.length c news hlen (fun j u hu=>by rw [Zj];exact O j u hu) (by omega) (by unfold maxLen;omega) gc;obtain ⟨Fa,La⟩:=Wi fr dst l;have D:¬ (l=.slice none 0 0∧xs.length+ys.length=0):=fun q=>by omega
  obtain ⟨of,q⟩:=Ne;obtain ⟨f,cap,cur,rfl,wf,W,bc,c2,c3,c4⟩:=q.resolve_left D;have If:Grow w w':=⟨e.os,e.tape,e.output,e.size,fun k dg _=>e.block k dg (by simp)⟩;have X:=d.grow If;have rg:f ∉ blocks rs:=fun E=>by have:=d.lt E;omega
  have kk:f<w'.heap.size:=(Array.getElem?_eq_some_iff.1 W).1;have bi:ja μ da w' (.row (.slice (some ⟨f,0,none⟩) (xs.length+ys.length) cap) T (mb.sz α) (xs++ys).length (p++news)::rs):=by
   refine ⟨X.keeps,fun r F=>?_,?_,fun b m=>?_,?_⟩
   ·rcases List.mem_cons.1 F with rfl | F
    ·rw [List.length_append];exact ⟨of,.inr ⟨f,0,cap,cur,rfl,W,bc,c2,by omega,by simpa using c4⟩⟩
    ·exact X.all r F
   ·show (f::blocks rs).Nodup;exact List.nodup_cons.2 ⟨rg,d.ti⟩
   ·rcases List.mem_cons.1 (show b ∈ f::blocks rs from m) with rfl | m
    ·exact .inl (Nat.le_trans d.keeps.size wf)
    ·exact d.new b m
   ·intro ci ii li;refine d.aj ci (Nat.le_trans e.size ii) fun b m Y=>?_;have pi:b≠f:=by omega
    exact (li b (by have:=e.size;omega) ⟨Y.1,fun E=>(List.mem_cons.1 (show b ∈ f::blocks rs from E)).elim pi Y.2⟩).trans (e.block b m (by simp))
  refine Oh (v:=_) (w':=w') ?_ La (h _ _ w' (o.cat B) bi Fa La);have ia:=M ds;have C:=N ds;simp [execOp,resolve,invoke,builtin,ia,C,ne]
end
section
variable {S bd:Nat→Prop}{da w:World}{A:World→Prop}
theorem _root_.Go.hc.Sep.rz {a g t:List Qa}(h:Sep S bd da w (g++(a++t)) A):Sep S bd da w (a++(g++t)) A:=h.perm (by
 rw [← List.append_assoc,← List.append_assoc];exact List.perm_append_comm.append_right t)
end
structure Fc where
 b:Nat
instance:mb Fc where
 sz:=1
 pos:=by decide
 cs _ l x:=l=[.pointer (some ⟨x.b,0,none⟩)]
 Gi h:=by subst h;rfl
 up _ h:=h
 Fh h:=by subst h;rfl
structure Mk where
 b:Option Nat
instance:xh Mk where
 Oi _ v x:=v=match x.b with | none=>.pointer none | some b=>.pointer (some ⟨b,0,none⟩)
 up _ h:=h
section
variable {P:Program}{Q:Exit→Act→World→Prop}{K:List Value→List Deferred→World→Prop}{fr Fa:List Value}{ds:List Deferred}{w:World}
variable {dst:Option Tmp}{ty:TypeId}{pos:String}{after:Array Edge}{g:Option (Nat×Bool)}
theorem eH {x:Operand}{t:TypeId}{v:Value}(a:qb fr x (.iface t v)) (h:Q (.panic [{ v:=.iface t v,recovered:=false }]) (F fr ds) w):Md P (Oper.mk dst (.panic x) ty pos after g) fr ds w K Q:=by
 constructor;intro b c;have e:(execOp (F fr ds).eval (Oper.mk dst (.panic x) ty pos after g)).run P w=.halt (.panic (.iface t v)) w:=by
  simp [execOp,a ds];rfl
 unfold Oper.wp;rw [e,Oper.upon_panic];exact h
theorem fH {x:Operand}{t:TypeId}{v:Value}(a:P.concrete t=true) (b:qb fr x v) (c:ef fr dst (.iface t v) Fa) (h:K Fa ds w):Md P (Oper.mk dst (.makeInterface t x) ty pos after g) fr ds w K Q:=by
 refine Oh (v:=.iface t v) (w':=w) ?_ c h;have:=run_makeInterface (P:=P) (w:=w) t v a;simp [execOp,b ds,this]
end
end Go.Mc
namespace Go.Mc
open Go.hc Go.RowKit
section
variable {P:Program}{Q:Exit→Act→World→Prop}{K:List Value→List Deferred→World→Prop}{fr Fa:List Value}{ds:List Deferred}{w da:World}
variable {dst:Option Tmp}{ty:TypeId}{pos:String}{after:Array Edge}{g:Option (Nat×Bool)}{S bd:Nat→Prop}{A:World→Prop}{rs rs':List Qa}{T:TypeId}
def Ck (es:List MapEntry) (c:Nat) (k z:Value):List MapEntry:=match Bj es k with
 | some (i,_)=>es.modify i fun e=>{ e with key:=k }
 | none=>es++[{ key:=k,val:=z,born:=c }]
def hn (es:List MapEntry) (c:Nat) (k:Value):Nat:=match Bj es k with
 | some (i,_)=>((es[i]?).map (·.born)).getD 0
 | none=>c
theorem xI {x y:Operand}{hf aa:TypeId}{d:TypeDesc}{kv z:Value}{b c k:Nat}{es:List MapEntry}(m:P.underlying T=some (.map hf aa)) (n:P.underlying hf=some d) (B:∀ w,(zeroValue aa).run P w=.ok z w) (o:qb fr x (.map (some b))) (p:qb fr y kv) (a:Dj d kv)
  (q:Sep S bd da w rs A) (oa:vc rs k (.map b es c)) (he:∀ e ∈ es,Dj d e.key)
  (h:∀ u w' rs',zc rs k (.map b (Ck es c kv z) (Zi es c kv)) rs'→Sep S bd da w' rs' A→Bh fr dst (.tuple #[u,.int .i64 (hn es c kv)]) fun Fa=>K Fa ds w'):Md P (Oper.mk dst (.mapEntry T x y) ty pos after g) fr ds w K Q:=by
 have f:w.heap[b]?=some (.map ⟨es⟩ c):=q.get oa;have C:b<w.heap.size:=(Array.getElem?_eq_some_iff.1 f).1
 let w':World:={ w with heap:=w.heap.setIfInBounds b (.map ⟨Ck es c kv z⟩ (Zi es c kv)) }
 have D:ni (fun k=>k≠b) w w':=⟨rfl,rfl,rfl,by simp [w'],fun j _ E=>by simp [w',Array.getElem?_setIfInBounds,Ne.symm E]⟩;have r:=q.put (b:=b) (r':=.map b (Ck es c kv z) (Zi es c kv)) (w':=w') oa rfl rfl rfl (by show w'.heap[b]?=_;simp [w',C]) D;have s:=run_checkKey (P:=P) (w:=w) (b:=false) n a;have t:=run_findKey (P:=P) (w:=w) n a he;cases l:Bj es kv with
 | none =>
  obtain ⟨Fa,La⟩:=Wi fr dst (.tuple #[z,.int .i64 (hn es c kv)]);refine Oh (w':=w') ?_ La (h z w' _ rfl r Fa La);simp [execOp,o ds,p ds,Instr.mapEntry,run_underlying m,getObj,setObj,Sem.run,f,Result.andThen,s,t,l,w',Ck,Zi,hn,B,goInt]
 | some e =>
  obtain ⟨i,u⟩:=e;obtain ⟨e,v,F,-⟩:=Dx l;have G:=SA a (he e (List.mem_of_getElem? v)) F;obtain ⟨Fa,La⟩:=Wi fr dst (.tuple #[u,.int .i64 (hn es c kv)]);refine Oh (w':=w') ?_ La (h u w' _ rfl r Fa La);simp [execOp,o ds,p ds,Instr.mapEntry,run_underlying m,getObj,setObj,Sem.run,f,Result.andThen,s,t,l,v,Instr.keyThatStays,G,w',Ck,Zi,hn,goInt]
theorem pB {α:Type}{f:α→α}{e:α}:∀ {es:List α},(es++[e]).modify es.length f=es++[f e]
 | []=>rfl
 | a::es=>by
  show (a::(es++[e])).modify (es.length+1) f=a::(es++[f e]);rw [List.modify_succ_cons,pB]
theorem cG {es:List MapEntry}{c:Nat}{kv z:Value}(k:∀ e ∈ es,e.born<c) (l:es.Pairwise fun a b=>a.born<b.born):(Ck es c kv z).findIdx? (fun e=>((e.born:Int) == ((hn es c kv:Nat):Int)))=some (match Bj es kv with | some (i,_)=>i | none=>es.length):=by
 rw [List.findIdx?_eq_some_iff_getElem];cases f:Bj es kv with
 | none =>
  simp only [Ck,hn,f];refine ⟨by simp,by simp,fun j d=>?_⟩;have:=k _ (List.getElem_mem (by simpa using d:j<es.length));rw [List.getElem_append_left (by simpa using d)];simp only [beq_iff_eq];omega
 | some e =>
  obtain ⟨i,u⟩:=e;obtain ⟨e,g,n,-⟩:=Dx f;obtain ⟨h,rfl⟩:=List.getElem?_eq_some_iff.1 g;simp only [Ck,hn,f,g,Option.map_some,Option.getD_some];refine ⟨by simpa using h,by simp,fun j d=>?_⟩;have m:j<es.length:=by have:j<i:=d;omega
  have:=List.pairwise_iff_getElem.1 l j i m h d;rw [List.getElem_modify];split
  ·omega
  ·simp only [beq_iff_eq];omega
theorem yI {x s z:Operand}{kv v z0:Value}{b c k:Nat}{es:List MapEntry}(m:qb fr x (.map (some b))) (n:qb fr s (.int .i64 (hn es c kv))) (o:qb fr z v)
  (p:Sep S bd da w rs A) (oa:vc rs k (.map b (Ck es c kv z0) (Zi es c kv))) (q:∀ e ∈ es,e.born<c) (r:es.Pairwise fun a b=>a.born<b.born)
  (La:ef fr dst undef Fa) (h:∀ w' rs',zc rs k (.map b (putAt es c kv v) (Zi es c kv)) rs'→Sep S bd da w' rs' A→K Fa ds w'):Md P (Oper.mk dst (.entryStore T x s z) ty pos after g) fr ds w K Q:=by
 have l:w.heap[b]?=some (.map ⟨Ck es c kv z0⟩ (Zi es c kv)):=p.get oa;have t:b<w.heap.size:=(Array.getElem?_eq_some_iff.1 l).1
 let w':World:={ w with heap:=w.heap.setIfInBounds b (.map ⟨putAt es c kv v⟩ (Zi es c kv)) }
 have y:ni (fun k=>k≠b) w w':=⟨rfl,rfl,rfl,by simp [w'],fun j _ B=>by simp [w',Array.getElem?_setIfInBounds,Ne.symm B]⟩;have C:=p.put (b:=b) (r':=.map b (putAt es c kv v) (Zi es c kv)) (w':=w') oa rfl rfl rfl (by show w'.heap[b]?=_;simp [w',t]) y;refine mz (w':=w') ?_ La (h w' _ rfl C);have d:=cG (kv:=kv) (z:=z0) q r;cases f:Bj es kv with
 | none =>
  rw [f] at d;have hm:(Ck es c kv z0).modify es.length (fun e=>{ e with val:=v })=putAt es c kv v:=by
   simp only [Ck,putAt,f];exact pB
  simp [execOp,m ds,n ds,o ds,Instr.entryStore,getObj,setObj,Sem.run,l,Result.andThen,asInt,asIntOf,d,hm,w']
 | some e =>
  obtain ⟨i,u⟩:=e;rw [f] at d;have hm:(Ck es c kv z0).modify i (fun e=>{ e with val:=v })=putAt es c kv v:=by
   simp only [Ck,putAt,f];rw [List.modify_modify_eq];rfl
  simp [execOp,m ds,n ds,o ds,Instr.entryStore,getObj,setObj,Sem.run,l,Result.andThen,asInt,asIntOf,d,hm,w']
end
section
variable {P:Program}{Q:Exit→Act→World→Prop}{K:List Value→List Deferred→World→Prop}{fr Fa:List Value}{ds:List Deferred}{w da:World}
variable {dst:Option Tmp}{ty:TypeId}{pos:String}{after:Array Edge}{g:Option (Nat×Bool)}{μ:M}{rs rs':List Qa}{T:TypeId}
variable {κ β:Type}[DecidableEq κ] [ub κ] [xh β]
theorem LB {x y:Operand}{hf aa:TypeId}{z:Value}{b c k:Nat}{es:List MapEntry}{kk:κ}{m:List (κ×β)}(a:P.underlying T=some (.map hf aa)) (d:P.underlying hf=some (ub.Ud (κ:=κ))) (e:∀ w,(zeroValue aa).run P w=.ok z w) (f:qb fr x (.map (some b))) (i:qb fr y (ub.key kk))
  (j:ja μ da w rs) (oa:vc rs k (.map b es c)) (he:Hf μ es c m)
  (h:∀ u w' rs',zc rs k (.map b (Ck es c (ub.key kk) z) (Zi es c (ub.key kk))) rs'→ja μ da w' rs'→Bh fr dst (.tuple #[u,.int .i64 (hn es c (ub.key kk))]) fun Fa=>K Fa ds w'):Md P (Oper.mk dst (.mapEntry T x y) ty pos after g) fr ds w K Q :=
 xI a d e f i (ub.hf kk) j oa he.kv.keys h
theorem MB {x s z:Operand}{v z0:Value}{b c k:Nat}{es:List MapEntry}{kk:κ}{m:List (κ×β)}{xx:β}(d:qb fr x (.map (some b))) (e:qb fr s (.int .i64 (hn es c (ub.key kk)))) (f:qb fr z v) (i:xh.Oi μ v xx)
  (j:ja μ da w rs) (oa:vc rs k (.map b (Ck es c (ub.key kk) z0) (Zi es c (ub.key kk)))) (he:Hf μ es c m)
  (La:ef fr dst undef Fa) (h:∀ a c' w' rs',Hf μ a c' (Nd m kk xx)→zc rs k (.map b a c') rs'→ja μ da w' rs'→K Fa ds w'):Md P (Oper.mk dst (.entryStore T x s z) ty pos after g) fr ds w K Q :=
 yI d e f j oa he.lt he.inc La fun w' rs'=>h _ _ w' rs' (he.put kk i)
end
section
variable {P:Program}{Q:Exit→Act→World→Prop}{K:List Value→List Deferred→World→Prop}{fr Fa:List Value}{ds:List Deferred}{w:World}
variable {dst:Option Tmp}{ty:TypeId}{pos:String}{after:Array Edge}{g:Option (Nat×Bool)}
theorem WJ {x:Operand}{a t:TypeId}{v:Value}{d:TypeDesc}(hu:P.underlying t=some d) (La:(match d with | .interface _=>false | _=>true)=true) (b:qb fr x (.iface t v)) (c:ef fr dst (.tuple #[v,.bool true]) Fa) (h:K Fa ds w):Md P (Oper.mk dst (.typeAssert x a t true) ty pos after g) fr ds w K Q:=by
 refine Oh (v:=.tuple #[v,.bool true]) (w':=w) ?_ c h;have ia:=b ds;have e:(Instr.typeAssert (.iface t v) a t true).run P w=.ok (.tuple #[v,.bool true]) w:=by
  unfold Instr.typeAssert;simp only [Sem.run_bind,run_underlying hu,Result.andThen_ok];cases d<;>first | (simp at La;done) | simp
 simp [execOp,ia,e]
end
end Go.Mc
namespace Go.Mc
open Go.hc Go.RowKit
theorem mh {α:Type}{c:Prop}[Decidable c]{y:Option α}{r:α}{G:Prop}(h:(if c then none else y)=some r) (a:c):G:=by rw [if_pos a] at h;cases h
theorem Eo {α:Type}{c:Prop}[Decidable c]{x:Option α}{r:α}{G:Prop}(h:(if c then x else none)=some r) (a:¬ c):G:=by rw [if_neg a] at h;cases h
section
variable {P:Program}{Q Q':Exit→Act→World→Prop}{fr Fa:List Value}{ds:List Deferred}{w:World}{ops:Array Oper}{y:Code}{id:Nat}{l:List Oper}
theorem ea (h:Ae P y Q' fr ds w):Uf P ops (Exit.then (nr P y Q') Q) [] fr ds w:=ab (la h)
theorem ca (h:Uf P l.toArray (Exit.then (nr P y Q) Q) l fr ds w):Ae P (.seq (.region id l.toArray false) y) Q fr ds w:=Ga (nb h)
theorem Eb (h:Uf P l.toArray (Exit.then (nr P y Q') Q') l fr ds w):Uf P ops (Exit.then (nr P (.seq (.region id l.toArray false) y) Q') Q) [] fr ds w:=ab (la (Ga (nb h)))
theorem kb {x:Code}(h:Ae P x (Exit.then (nr P y Q') Q') fr ds w):Uf P ops (Exit.then (nr P (.seq x y) Q') Q) [] fr ds w:=ab (la (Ga h))
variable {R R':List Nat}{dst:Tmp}{op:Op}{ty:TypeId}{pos:String}{after:Array Edge}{v:Value}{Bb:List Mon}{j d:Nat}{b ed:Bool}
theorem yh (i:Nat) (S:List Nat) (he:(decide R.Nodup && enabled ops R i && waits ops R S i && cm ops S R i && S.contains i,R.erase i,ops[i]?)=(true,R',some ⟨some dst,op,ty,pos,after,none⟩)) (a:Lf P ⟨some dst,op,ty,pos,after,none⟩ fr v) (b:zc fr dst v Fa) (h:Df P ops Q Bb R' Fa ds w) (c:ck Q dst:=by first | exact fun _ _ _ _ _ h=>h | exact jj fun _ _ _ h=>h.2 | exact jj fun _ _ _ h=>h.2.2):Df P ops Q Bb R fr ds w:=Da S c (congrArg (·.1) he) (congrArg (·.2.1) he) (congrArg (·.2.2) he) a b h
theorem Qt (i:Nat) (S:List Nat) (he:(decide R.Nodup && enabled ops R i && waits ops R S i && cm ops S R i && S.contains i,R.erase i,ops[i]?)=(true,R',some ⟨some dst,op,ty,pos,after,some (j,b)⟩)) (a:(ops[j]?).bind (·.dst)=some d) (oa:vc fr d (.bool b)) (c:Lf P ⟨some dst,op,ty,pos,after,some (j,b)⟩ fr v) (e:zc fr dst v Fa) (h:Df P ops Q Bb R' Fa ds w) (f:ck Q dst:=by first | exact fun _ _ _ _ _ h=>h | exact jj fun _ _ _ h=>h.2 | exact jj fun _ _ _ h=>h.2.2):Df P ops Q Bb R fr ds w:=Mr S f (congrArg (·.1) he) (congrArg (·.2.1) he) (congrArg (·.2.2) he) a oa c e h
theorem xo (i:Nat) (S:List Nat) (he:(decide R.Nodup && enabled ops R i && waits ops R S i && cm ops S R i && S.contains i,R.erase i,ops[i]?)=(true,R',some ⟨some dst,op,ty,pos,after,some (j,b)⟩)) (a:(ops[j]?).bind (·.dst)=some d) (oa:vc fr d (.bool ed)) (c:(ed == b)=false) (e:zc fr dst undef Fa) (h:Df P ops Q Bb R' Fa ds w) (f:ck Q dst:=by first | exact fun _ _ _ _ _ h=>h | exact jj fun _ _ _ h=>h.2 | exact jj fun _ _ _ h=>h.2.2):Df P ops Q Bb R fr ds w:=Nr S f (congrArg (·.1) he) (congrArg (·.2.1) he) (congrArg (·.2.2) he) a oa c e h
theorem Fb (i:Nat) (S:List Nat) (he:(decide R.Nodup && enabled ops R i && waits ops R S i && cm ops S R i && S.contains i,R.erase i,ops[i]?)=(true,R',some ⟨some dst,op,ty,pos,after,none⟩)) (a:Hn P ⟨some dst,op,ty,pos,after,none⟩ fr w v) (b:zc fr dst v Fa) (h:Df P ops Q ((S,fun w'=>Hn P ⟨some dst,op,ty,pos,after,none⟩ fr w' v)::Bb) R' Fa ds w) (c:ck Q dst:=by first | exact fun _ _ _ _ _ h=>h | exact jj fun _ _ _ h=>h.2 | exact jj fun _ _ _ h=>h.2.2):Df P ops Q Bb R fr ds w:=hb S c (congrArg (·.1) he) (congrArg (·.2.1) he) (congrArg (·.2.2) he) a b h
theorem tz (i:Nat) (S:List Nat) (he:(decide R.Nodup && enabled ops R i && waits ops R S i && cm ops S R i && S.contains i,R.erase i,ops[i]?)=(true,R',some ⟨some dst,op,ty,pos,after,some (j,b)⟩)) (a:(ops[j]?).bind (·.dst)=some d) (oa:vc fr d (.bool b)) (c:Hn P ⟨some dst,op,ty,pos,after,some (j,b)⟩ fr w v) (e:zc fr dst v Fa) (h:Df P ops Q ((S,fun w'=>Hn P ⟨some dst,op,ty,pos,after,some (j,b)⟩ fr w' v)::Bb) R' Fa ds w) (f:ck Q dst:=by first | exact fun _ _ _ _ _ h=>h | exact jj fun _ _ _ h=>h.2 | exact jj fun _ _ _ h=>h.2.2):Df P ops Q Bb R fr ds w:=Wn S f (congrArg (·.1) he) (congrArg (·.2.1) he) (congrArg (·.2.2) he) a oa c e h
end
class Ql (l:List Value) (n:Nat) (v:outParam Value):Prop where out:vc l n v
instance {v:Value}{l:List Value}:Ql (v::l) 0 v:=⟨rfl⟩
instance {a v:Value}{l:List Value}{n:Nat}[h:Ql l n v]:Ql (a::l) (n+1) v:=⟨h.out⟩
instance (priority:=2000){c0 bc c2 c3 c4 c5 Me a Ng c9 v:Value}{l:List Value}{n:Nat}[h:Ql l n v]:Ql (c0::bc::c2::c3::c4::c5::Me::a::Ng::c9::l) (n+10) v:=⟨h.out⟩
class bj (l:List Value) (n:Nat) (v:Value) (a:outParam (List Value)):Prop where out:zc l n v a
instance {a v:Value}{l:List Value}:bj (a::l) 0 v (v::l):=⟨rfl⟩
instance {a v:Value}{l b:List Value}{n:Nat}[h:bj l n v b]:bj (a::l) (n+1) v (a::b):=⟨congrArg (a::·) h.out⟩
instance (priority:=2000){c0 bc c2 c3 c4 c5 Me a Ng c9 v:Value}{l b:List Value}{n:Nat}[h:bj l n v b]:bj (c0::bc::c2::c3::c4::c5::Me::a::Ng::c9::l) (n+10) v (c0::bc::c2::c3::c4::c5::Me::a::Ng::c9::b):=⟨congrArg (c0::bc::c2::c3::c4::c5::Me::a::Ng::c9::·) h.out⟩
class Dh (fr:List Value) (x:Operand) (v:outParam Value):Prop where out:qb fr x v
instance {fr:List Value}{n:Nat}{v:Value}[h:Ql fr n v]:Dh fr (.tmp n) v:=⟨aa h.out⟩
instance {fr:List Value}{v:Value}:Dh fr (.const v) v:=⟨Ma⟩
class jk (P:Program) (op:Op) (fr:List Value) (v:outParam Value):Prop where out:∀ dst ty pos after g,Lf P (Oper.mk dst op ty pos after g) fr v
section
variable {P:Program}{fr:List Value}{x y c:Operand}{v:Value}{t qc:TypeId}{k:IntKind}{a b:Int}
instance [h:Dh fr x v]:jk P (.move x) fr v:=⟨fun _ _ _ _ _=>Ye h.out⟩
instance [h:Dh fr x v]:jk P (.assign x) fr v:=⟨fun _ _ _ _ _=>Cg h.out⟩
instance {a:Addr}[h:Dh fr x (.pointer (some a))]:jk P (.nilCheck x) fr (.pointer (some a)):=⟨fun _ _ _ _ _=>kd h.out⟩
instance [c:Dh fr x (.int k a)] [d:Dh fr y (.int k b)]:jk P (.binOp .eql t x y qc) fr (.bool (decide (a=b))):=⟨fun _ _ _ _ _=>Iu c.out d.out⟩
instance [c:Dh fr x (.int k a)] [d:Dh fr y (.int k b)]:jk P (.binOp .neq t x y qc) fr (.bool (decide (a≠b))):=⟨fun _ _ _ _ _=>YC c.out d.out⟩
instance [c:Dh fr x (.int k a)] [d:Dh fr y (.int k b)]:jk P (.binOp .lss t x y qc) fr (.bool (decide (a<b))):=⟨fun _ _ _ _ _=>Py c.out d.out⟩
instance [c:Dh fr x (.int k a)] [d:Dh fr y (.int k b)]:jk P (.binOp .leq t x y qc) fr (.bool (decide (a≤b))):=⟨fun _ _ _ _ _=>JJ c.out d.out⟩
instance [c:Dh fr x (.int k a)] [d:Dh fr y (.int k b)]:jk P (.binOp .gtr t x y qc) fr (.bool (decide (b<a))):=⟨fun _ _ _ _ _=>XC c.out d.out⟩
instance [c:Dh fr x (.int k a)] [d:Dh fr y (.int k b)]:jk P (.binOp .geq t x y qc) fr (.bool (decide (b≤a))):=⟨fun _ _ _ _ _=>LJ c.out d.out⟩
end
section
variable {P:Program}{Q:Exit→Act→World→Prop}{fr Fa:List Value}{ds:List Deferred}{w:World}{ops:Array Oper}{rest:List Oper}{d:Tmp}{op:Op}{ty:TypeId}{pos:String}{after:Array Edge}{v:Value}
theorem st [hu:jk P op fr v] [a:bj fr d v Fa] (h:Uf P ops Q rest Fa ds w):Uf P ops Q (⟨some d,op,ty,pos,after,none⟩::rest) fr ds w:=wl (Ra (hu.out _ _ _ _ _) (fa a.out) h)
end
class Ww (fr:List Value) (xs:List Operand) (vs:outParam (List Value)):Prop where out:ll fr xs vs
instance {fr:List Value}:Ww fr [] []:=⟨Xa⟩
instance {fr:List Value}{x:Operand}{v:Value}{xs:List Operand}{vs:List Value}[h:Dh fr x v] [k:Ww fr xs vs]:Ww fr (x::xs) (v::vs):=⟨ia h.out k.out⟩
section
variable {P:Program}{fr:List Value}{x y c:Operand}{v:Value}{t qc T:TypeId}{b:Nat}{o off i:Nat}{vs:List Value}{q:Bool}
instance [a:Xd P T i off] [h:Dh fr x (.pointer (some ⟨b,o,none⟩))]:jk P (.fieldAddr T x i) fr (.pointer (some ⟨b,o+off,none⟩)):=⟨fun _ _ _ _ _=>Xc a h.out rfl⟩
instance [a:Dh fr c (.bool true)] [h:Dh fr x v]:jk P (.pick c x y) fr v:=⟨fun _ _ _ _ _=>BB a.out h.out⟩
instance [a:Dh fr c (.bool false)] [h:Dh fr y v]:jk P (.pick c x y) fr v:=⟨fun _ _ _ _ _=>nw a.out h.out⟩
instance [h:Dh fr x (.bool q)]:jk P (.unOp .not t x) fr (.bool (!q)):=⟨fun _ _ _ _ _=>ZC h.out⟩
instance [h:Dh fr x (.tuple ⟨vs⟩)] [k:Ql vs i v]:jk P (.extract x i) fr v:=⟨fun _ _ _ _ _=>Aw h.out k.out⟩
end
section
variable {P:Program}{Q:Exit→Act→World→Prop}{fr Fa:List Value}{ds:List Deferred}{w:World}{ops:Array Oper}{rest:List Oper}{d:Tmp}{op:Op}{ty:TypeId}{pos:String}{after:Array Edge}{v:Value}{j e:Nat}{b ed:Bool}
theorem Sa [hu:jk P op fr v] [a:bj fr d v Fa] (c:(ops[j]?).bind (·.dst)=some e) [oa:Ql fr e (.bool b)] (h:Uf P ops Q rest Fa ds w):Uf P ops Q (⟨some d,op,ty,pos,after,some (j,b)⟩::rest) fr ds w:=Lc c oa.out (Ra (hu.out _ _ _ _ _) (fa a.out) h)
theorem ta [a:bj fr d undef Fa] (c:(ops[j]?).bind (·.dst)=some e) [oa:Ql fr e (.bool ed)] (f:(ed == b)=false) (h:Uf P ops Q rest Fa ds w):Uf P ops Q (⟨some d,op,ty,pos,after,some (j,b)⟩::rest) fr ds w:=wn c oa.out f (fa a.out) h
theorem Aa {T:TypeId}{Bd:List Value}{n m o q:Nat}{x:Operand}[a:Oc P T false Bd n m] (b:w.cell? ⟨q,o,none⟩=some v) [c:Dh fr x (.pointer (some ⟨q,o,none⟩))] [e:bj fr d v Fa] (h:Uf P ops Q rest Fa ds w):Uf P ops Q (⟨some d,.load T x,ty,pos,after,none⟩::rest) fr ds w:=wl (hd a c.out b (fa e.out) h)
theorem Zg {T:TypeId}{Bd cs:List Value}{n m o q:Nat}{x:Operand}[a:Oc P T true Bd n m] (b:kj w q o cs) (c:cs.length=n) [e:Dh fr x (.pointer (some ⟨q,o,none⟩))] [f:bj fr d (.agg ⟨cs⟩) Fa] (h:Uf P ops Q rest Fa ds w):Uf P ops Q (⟨some d,.load T x,ty,pos,after,none⟩::rest) fr ds w:=wl (cp a e.out b c (fa f.out) h)
theorem Rb {dst:Option Tmp}{xs:List Operand}{tys:Array TypeId}{k:FuncId}{vs:List Value}{R:Value→World→Prop}[a:jc P k] [b:Ww fr xs vs] (c:Ic P k vs w R) (h:∀ v w',R v w'→Bh fr dst v fun Fa=>Uf P ops Q rest Fa ds w') :
  Uf P ops Q (⟨dst,.call { callee:=.value (.func k),args:=⟨xs⟩,argTypes:=tys },ty,pos,after,none⟩::rest) fr ds w:=wl (Te a Rc b.out c h)
theorem Ld {id:Nat}{l:List Oper}{μ:M}{da:World}{rs:List Qa}(a:ja μ da w rs) (h:∀ w',ja μ da w' rs→Oz P l.toArray Q (List.range l.length) fr ds w') (hm:P.follows .mixedOrders=true:=by kernel_rfl) (b:(List.range l.toArray.size).all (fun i=>(im l.toArray i).all fun j=>decide (j<i))=true:=by rfl):Ae P (.region id l.toArray true) Q fr ds w :=
 al hm b fun w' c d e f=>h w' (a.drew c d e f)
theorem ka {v:Value}{K:List Value→Prop}[a:bj fr d v Fa] (h:K Fa):Bh fr (some d) v K:=pu (fa a.out) h
theorem Ta {Bb:List Mon}{R R':List Nat}(i:Nat) (S:List Nat) (he:(decide R.Nodup && enabled ops R i && waits ops R S i && cm ops S R i && S.contains i,R.erase i,ops[i]?)=(true,R',some ⟨some d,op,ty,pos,after,none⟩)) [a:jk P op fr v] [b:bj fr d v Fa] (h:Df P ops Q Bb R' Fa ds w) (c:ck Q d:=by first | exact fun _ _ _ _ _ h=>h | exact jj fun _ _ _ h=>h.2 | exact jj fun _ _ _ h=>h.2.2):Df P ops Q Bb R fr ds w :=
 yh i S he (a.out _ _ _ _ _) b.out h c
end
section
variable {rs rs':List Qa}{na a2 a3 a4 a5 Nb Lb Ob a9 Dd yc a12 r:Qa}
theorem Pc:ug (na::r::rs) 1 (r::na::rs):=.s (ug.z)
theorem Zd:ug (na::a2::r::rs) 2 (r::na::a2::rs):=.s (.s (ug.z))
theorem jf:ug (na::a2::a3::r::rs) 3 (r::na::a2::a3::rs):=.s (.s (.s (ug.z)))
theorem Qi:ug (na::a2::a3::a4::r::rs) 4 (r::na::a2::a3::a4::rs):=.s (.s (.s (.s (ug.z))))
theorem gL:ug (na::a2::a3::a4::a5::r::rs) 5 (r::na::a2::a3::a4::a5::rs):=.s (.s (.s (.s (.s (ug.z)))))
theorem Fo:ug (na::a2::a3::a4::a5::Nb::r::rs) 6 (r::na::a2::a3::a4::a5::Nb::rs):=.s (.s (.s (.s (.s (.s (ug.z))))))
theorem Zt:ug (na::a2::a3::a4::a5::Nb::Lb::r::rs) 7 (r::na::a2::a3::a4::a5::Nb::Lb::rs):=.s (.s (.s (.s (.s (.s (.s (ug.z)))))))
end
section
variable {P:Program}{Q:Exit→Act→World→Prop}{fr Ph Qh:List Value}{ds:List Deferred}{w:World}{ops:Array Oper}{l:List Oper}{R:List Nat}{Bb:List Mon}{c:Operand}{x y:Code}{p:Prop}[Decidable p]{b:Bool}{d:Nat}{α:Type}{A B:Option α}{r:α}
theorem Kc (h:(if p then A else B)=some r) [a:Dh fr c (.bool (decide p))] (b:p→A=some r→Ae P x Q fr ds w) (d:¬ p→B=some r→Ae P y Q fr ds w):Ae P (.cond c x y) Q fr ds w:=Nh a.out (fun q=>b q (Xj q h)) (fun q=>d q (zg q h))
theorem bg (h:(if b=true then A else B)=some r) [a:Dh fr c (.bool b)] (d:b=true→A=some r→Ae P x Q fr ds w) (e:¬ b=true→B=some r→Ae P y Q fr ds w):Ae P (.cond c x y) Q fr ds w:=Yi a.out (fun q=>d q (Xj q h)) (fun q=>e q (zg q h))
theorem qm (h:(if b=true then A else B)=some r) [a:Dh fr c (.bool (!b))] (d:¬ b=true→B=some r→Ae P x Q fr ds w) (e:b=true→A=some r→Ae P y Q fr ds w):Ae P (.cond c x y) Q fr ds w:=Ty a.out (fun q=>d q (zg q h)) (fun q=>e q (Xj q h))
theorem Xf (d:Nat) (h:(if p then A else B)=some r) [oa:Ql fr d (.bool (decide p))] [a:bj fr d (.bool true) Ph] [b:bj fr d (.bool false) Qh] (c:p→A=some r→Uf P ops Q l Ph ds w) (e:¬ p→B=some r→Uf P ops Q l Qh ds w):Uf P ops Q l fr ds w:=qh oa.out a.out b.out (fun q=>c q (Xj q h)) (fun q=>e q (zg q h))
theorem FD (d:Nat) (h:(if b=true then A else B)=some r) [oa:Ql fr d (.bool b)] [a:bj fr d (.bool true) Ph] [c:bj fr d (.bool false) Qh] (e:b=true→A=some r→Uf P ops Q l Ph ds w) (f:¬ b=true→B=some r→Uf P ops Q l Qh ds w):Uf P ops Q l fr ds w:=BK oa.out a.out c.out (fun q=>e q (Xj q h)) (fun q=>f q (zg q h))
theorem Hz (d:Nat) (h:(if b=true then A else B)=some r) [oa:Ql fr d (.bool (!b))] [a:bj fr d (.bool true) Ph] [c:bj fr d (.bool false) Qh] (e:¬ b=true→B=some r→Uf P ops Q l Ph ds w) (f:b=true→A=some r→Uf P ops Q l Qh ds w):Uf P ops Q l fr ds w:=SJ oa.out a.out c.out (fun q=>e q (zg q h)) (fun q=>f q (Xj q h))
theorem ZK (d:Nat) (h:(if p then A else B)=some r) [oa:Ql fr d (.bool (decide p))] [a:bj fr d (.bool true) Ph] [b:bj fr d (.bool false) Qh] (c:p→A=some r→Df P ops Q Bb R Ph ds w) (e:¬ p→B=some r→Df P ops Q Bb R Qh ds w):Df P ops Q Bb R fr ds w:=FK oa.out a.out b.out (fun q=>c q (Xj q h)) (fun q=>e q (zg q h))
theorem aL (d:Nat) (h:(if b=true then A else B)=some r) [oa:Ql fr d (.bool b)] [a:bj fr d (.bool true) Ph] [c:bj fr d (.bool false) Qh] (e:b=true→A=some r→Df P ops Q Bb R Ph ds w) (f:¬ b=true→B=some r→Df P ops Q Bb R Qh ds w):Df P ops Q Bb R fr ds w:=DD oa.out a.out c.out (fun q=>e q (Xj q h)) (fun q=>f q (zg q h))
end
abbrev nh (l:List Value):List Value:=undef::l
abbrev ud (l:List Value):List Value:=undef::undef::l
abbrev Gg (l:List Value):List Value:=undef::undef::undef::undef::undef::l
abbrev gg (l:List Value):List Value:=undef::undef::undef::undef::undef::undef::undef::undef::undef::undef::l
abbrev Yf (l:List Value):List Value:=undef::undef::undef::undef::undef::undef::undef::undef::undef::undef::undef::undef::undef::undef::undef::undef::undef::undef::undef::undef::l
abbrev Cf (l:List Value):List Value:=undef::undef::undef::undef::undef::undef::undef::undef::undef::undef::undef::undef::undef::undef::undef::undef::undef::undef::undef::undef::undef::undef::undef::undef::undef::undef::undef::undef::undef::undef::undef::undef::undef::undef::undef::undef::undef::undef::undef::undef::undef::undef::undef::undef::undef::undef::undef::undef::undef::undef::l
end Go.Mc
namespace Go.Mc
theorem wb {α : Type}{a b : α}(h : some a = some b) : a = b := Option.some.inj h
abbrev rg : Nat → Nat → List Nat := fun a b => List.range' a b
end Go.Mc
