/- Texts of Xu. -/
import Derived.Test.YticaondbdmcpoaaGreatDoorCXt
import Derived.Laws.IdiomCopy
import Derived.Shelf.Strconv.ParseIntPublic10
import Derived.Lib.IndexMore
import Derived.Sort.Row
import Derived.LaidEql
import Derived.ArgAppend
set_option linter.unusedSimpArgs false
set_option linter.unusedVariables false
set_option linter.unusedSectionVars false
namespace Go.ec
open Go.Rb Go.RowKit
theorem Na.split {α:Type}[ab α]{μ:M}:∀ {l:List α}{cells:List Value}{i:Nat}{x:α},Na μ cells l→l[i]?=some x →
  ∃ b cs gd,cells=b++(cs++gd)∧b.length=i*ab.sz α∧ab.cs μ cs x∧∀ (J:M) (a:List Value) (d:α),ga μ J→ab.cs J a d→Na J (b++(a++gd)) (l.set i d)
 | [],cells,i,x,h,c=>by simp at c
 | y::l,cells,i,x,h,c=>by
  rw [Na] at h;obtain ⟨cs,t,rfl,f,j⟩:=h;cases i with
  | zero =>
   simp at c;subst c;exact ⟨[],cs,t,rfl,by simp,f,fun J a d ia g=>⟨a,t,rfl,g,j.up ia⟩⟩
  | succ i =>
   simp at c;obtain ⟨b,k,gd,rfl,e,m,st⟩:=Na.split j c;exact ⟨cs++b,k,gd,by simp,by simp [e,ab.sj f,Nat.add_mul];omega,m,fun J a d ia g=>⟨cs,b++(a++gd),by simp,ab.up ia f,st J a d ia g⟩⟩
theorem _root_.Go.Rb.Row.HF {α:Type}[ab α]{w:World}{T:TypeId}{n:Nat}{μ:M}{v:Value}{cells:List Value}{l:List α}{i:Int}{x:α}(h:Row w v T (ab.sz α) n cells) (f:Na μ cells l) (A:l.length=n) (g:at_ l i=some x) :
  ∃ b o a cs gd,cells=a++(cs++gd)∧rv v (ab.sz α) i b o∧(∀ w T d,Row w v T (ab.sz α) n (a++(d++gd))→d.length=ab.sz α→Nj w b o d)∧ab.cs μ cs x∧a.length=i.toNat*ab.sz α ∧
   (∀ (J:M) (d:List Value) (k:α),ga μ J→ab.cs J d k→Na J (a++(d++gd)) (l.set i.toNat k))∧Na μ (a++(cs++gd)) l:=by
 obtain ⟨r,B,s⟩:=Ot g;obtain ⟨b,o,c,rfl,C⟩:=h.Mt (by omega);obtain ⟨a,cs,gd,rfl,e,m,st⟩:=f.split s;refine ⟨b,o+i.toNat*ab.sz α,a,cs,gd,rfl,⟨o,_,_,rfl,r,by omega,rfl⟩,?_,m,e,st,f⟩;intro D E d t ia j u p;obtain ⟨Ic,F,c',q,y⟩:=t.Mt (by omega);simp at q;obtain ⟨⟨rfl,rfl⟩,rfl⟩:=q;have z:j<d.length:=(List.getElem?_eq_some_iff.1 p).1;have:=y (a.length+j) u (by rw [List.getElem?_append_right (by omega),show a.length+j - a.length=j by omega,List.getElem?_append_left z];exact p);rw [e,← Nat.add_assoc] at this;exact this
section
variable {P:Program}{Q:Exit→Act→World→Prop}{K:List Value→List Deferred→World→Prop}{fr Ga:List Value}{ds:List Deferred}{w:World}
variable {dst:Option Tmp}{ty:TypeId}{pos:String}{after:Array Edge}{g:Option (Nat×Bool)}
variable {ca:World}{rs rs':List kb}{μ J:M}
variable {T:TypeId}
theorem ag.two {es:List MapEntry}{c:Nat}{k0 k1:List UInt8}{x0 x1:Int}(h:ag μ es c [(k0,x0),(k1,x1)]) :
  ∃ je de,es=[⟨S k0,.int .i64 x0,je⟩,⟨S k1,.int .i64 x1,de⟩]∧je<de∧de<c:=by
 obtain ⟨e,i,j⟩:=h
 match es,e,i,j with
 | [],e,_,_=>simp [rh] at e
 | [a],e,_,_ =>
  rw [rh] at e;obtain ⟨k,x,t,g,-,-,f⟩:=e;simp [rh] at f g;simp [f] at g
 | [a,b],e,i,j =>
  rw [rh] at e;obtain ⟨k,x,t,g,l,m,f⟩:=e;rw [rh] at f;obtain ⟨k',s,ib,n,o,p,q⟩:=f;subst n;simp only [List.cons.injEq,Prod.mk.injEq] at g;obtain ⟨⟨rfl,rfl⟩,⟨rfl,rfl⟩,-⟩:=g;obtain ⟨u,v,r⟩:=a;obtain ⟨w,bv,bb⟩:=b;have m:v=.int .i64 x0:=m;have p:bv=.int .i64 x1:=p;have l:u=S k0:=l;have o:w=S k1:=o;subst l o m p;have y:r<bb:=List.rel_of_pairwise_cons j (List.mem_singleton.2 rfl);have z:bb<c:=i ⟨S k1,.int .i64 x1,bb⟩ (by simp);exact ⟨r,bb,rfl,y,z⟩
 | a::b::d::es,e,_,_ =>
  rw [rh] at e;obtain ⟨k,x,t,g,-,-,f⟩:=e;rw [rh] at f;obtain ⟨k',s,ib,n,-,-,q⟩:=f;rw [rh] at q;obtain ⟨B,C,D,A,-,-,-⟩:=q;subst A n;simp at g
theorem ay (w:World) (b:Nat) (o:Obj) (a:b<w.heap.size):bj (fun k=>k≠b) w { w with heap:=w.heap.setIfInBounds b o }∧({ w with heap:=w.heap.setIfInBounds b o }:World).heap[b]?=some o :=
 ⟨⟨rfl,rfl,rfl,by simp,fun j _ c=>by simp [Array.getElem?_setIfInBounds,Ne.symm c]⟩,by simp [a]⟩
theorem SJ {x:Operand}{b m c f k je de:Nat}{a0 v0 oa v1:Value}(l:ob fr x (.pointer (some ⟨b,0,none⟩))) (d:ha μ ca w rs) (h:nc rs f (.en b m c [] c)) (hm:nc rs k (.map m [⟨a0,v0,je⟩,⟨oa,v1,de⟩] c)) (y:je<de) (n:de<c)
  (u:∀ w' rs',uc rs f (.en b m c [je] c) rs'→ha μ ca w' rs'→Hh fr dst (.tuple ⟨[.bool true,a0,v0]⟩) fun Ga=>K Ga ds w')
  (hB:∀ w' rs',uc rs f (.en b m c [de] c) rs'→ha μ ca w' rs'→Hh fr dst (.tuple ⟨[.bool true,oa,v1]⟩) fun Ga=>K Ga ds w') :
  Td P (Oper.mk dst (.next x false) ty pos after g) fr ds w K Q:=by
 have e:w.heap[b]?=some (.mapIter (some m) c ⟨[]⟩ c):=d.get h;have o:w.heap[m]?=some (.map ⟨[⟨a0,v0,je⟩,⟨oa,v1,de⟩]⟩ c):=d.get hm;have p:b<w.heap.size:=(Array.getElem?_eq_some_iff.1 e).1;have q:w.drew.heap[b]?=some (.mapIter (some m) c ⟨[]⟩ c):=e;have r:je<c:=by omega
 have s:¬ je ≥ c:=by omega
 have t:¬ de ≥ c:=by omega
 by_cases xa:(w.tape w.drawn (.mapNext 2)) % 2=0
 ·obtain ⟨i,j⟩:=ay w.drew b (.mapIter (some m) c ⟨[je]⟩ c) p;obtain ⟨Ga,a⟩:=vj fr dst (.tuple ⟨[.bool true,a0,v0]⟩);refine qi (w':={ w.drew with heap:=w.drew.heap.setIfInBounds b (.mapIter (some m) c ⟨[je]⟩ c) }) ?_ a (u _ _ rfl ((d.drew (w':=w.drew) rfl rfl rfl rfl).put (b:=b) h rfl rfl rfl j i) Ga a);simp [execOp,l ds,Instr.next,getObj,setObj,Sem.run,e,o,Result.andThen,r,n,s,t,choose,Question.forced,Question.cut,xa,q]
 ·have v:(w.tape w.drawn (.mapNext 2)) % 2=1:=by omega
  obtain ⟨i,j⟩:=ay w.drew b (.mapIter (some m) c ⟨[de]⟩ c) p;obtain ⟨Ga,a⟩:=vj fr dst (.tuple ⟨[.bool true,oa,v1]⟩);refine qi (w':={ w.drew with heap:=w.drew.heap.setIfInBounds b (.mapIter (some m) c ⟨[de]⟩ c) }) ?_ a (hB _ _ rfl ((d.drew (w':=w.drew) rfl rfl rfl rfl).put (b:=b) h rfl rfl rfl j i) Ga a);simp [execOp,l ds,Instr.next,getObj,setObj,Sem.run,e,o,Result.andThen,r,n,s,t,choose,Question.forced,Question.cut,v,q]
theorem TJ {x:Operand}{b m c d k je de:Nat}{a0 v0 oa v1:Value}(l:ob fr x (.pointer (some ⟨b,0,none⟩))) (a:ha μ ca w rs) (e:nc rs d (.en b m c [je] c)) (hm:nc rs k (.map m [⟨a0,v0,je⟩,⟨oa,v1,de⟩] c)) (A:je<de) (n:de<c)
  (o:∀ w' rs',uc rs d (.en b m c [je,de] c) rs'→ha μ ca w' rs'→Hh fr dst (.tuple ⟨[.bool true,oa,v1]⟩) fun Ga=>K Ga ds w') :
  Td P (Oper.mk dst (.next x false) ty pos after g) fr ds w K Q:=by
 have f:w.heap[b]?=some (.mapIter (some m) c ⟨[je]⟩ c):=a.get e;have p:w.heap[m]?=some (.map ⟨[⟨a0,v0,je⟩,⟨oa,v1,de⟩]⟩ c):=a.get hm;have q:b<w.heap.size:=(Array.getElem?_eq_some_iff.1 f).1;have r:¬ je ≥ c:=by omega
 have s:¬ de ≥ c:=by omega
 have t:¬ ∀ (i:Nat) (x:i<2),c≤([⟨a0,v0,je⟩,⟨oa,v1,de⟩]:List MapEntry)[i].born:=fun h=>by have:=h 0 (by decide);simp at this;omega
 have u:¬ de=je:=by omega
 have v:¬ je=de:=by omega
 obtain ⟨y,z⟩:=ay w b (.mapIter (some m) c ⟨[je,de]⟩ c) q;obtain ⟨Ga,j⟩:=vj fr dst (.tuple ⟨[.bool true,oa,v1]⟩);refine qi (w':={ w with heap:=w.heap.setIfInBounds b (.mapIter (some m) c ⟨[je,de]⟩ c) }) ?_ j (o _ _ rfl (a.put (b:=b) e rfl rfl rfl z y) Ga j);simp [execOp,l ds,Instr.next,getObj,setObj,Sem.run,f,p,Result.andThen,n,r,s,u,v,t,choose,Question.forced]
theorem NI {x:Operand}{b m c d k je de:Nat}{a0 v0 oa v1:Value}(l:ob fr x (.pointer (some ⟨b,0,none⟩))) (a:ha μ ca w rs) (e:nc rs d (.en b m c [de] c)) (hm:nc rs k (.map m [⟨a0,v0,je⟩,⟨oa,v1,de⟩] c)) (A:je<de) (B:de<c)
  (n:∀ w' rs',uc rs d (.en b m c [de,je] c) rs'→ha μ ca w' rs'→Hh fr dst (.tuple ⟨[.bool true,a0,v0]⟩) fun Ga=>K Ga ds w') :
  Td P (Oper.mk dst (.next x false) ty pos after g) fr ds w K Q:=by
 have f:w.heap[b]?=some (.mapIter (some m) c ⟨[de]⟩ c):=a.get e;have o:w.heap[m]?=some (.map ⟨[⟨a0,v0,je⟩,⟨oa,v1,de⟩]⟩ c):=a.get hm;have p:b<w.heap.size:=(Array.getElem?_eq_some_iff.1 f).1;have q:je<c:=by omega
 have r:¬ je ≥ c:=by omega
 have s:¬ de ≥ c:=by omega
 have t:¬ ∀ (i:Nat) (x:i<2),c≤([⟨a0,v0,je⟩,⟨oa,v1,de⟩]:List MapEntry)[i].born:=fun h=>by have:=h 0 (by decide);simp at this;omega
 have u:¬ de=je:=by omega
 have v:¬ je=de:=by omega
 obtain ⟨y,z⟩:=ay w b (.mapIter (some m) c ⟨[de,je]⟩ c) p;obtain ⟨Ga,j⟩:=vj fr dst (.tuple ⟨[.bool true,a0,v0]⟩);refine qi (w':={ w with heap:=w.heap.setIfInBounds b (.mapIter (some m) c ⟨[de,je]⟩ c) }) ?_ j (n _ _ rfl (a.put (b:=b) e rfl rfl rfl z y) Ga j);simp [execOp,l ds,Instr.next,getObj,setObj,Sem.run,f,o,Result.andThen,q,r,s,u,v,t,choose,Question.forced]
theorem rE {x:Operand}{b m c d k je de p q:Nat}{a0 v0 oa v1:Value}(e:ob fr x (.pointer (some ⟨b,0,none⟩))) (a:ha μ ca w rs) (f:nc rs d (.en b m c [p,q] c)) (hm:nc rs k (.map m [⟨a0,v0,je⟩,⟨oa,v1,de⟩] c)) (v:je<de) (y:de<c) (j:p=je∧q=de∨p=de∧q=je)
  (xa:lf fr dst (.tuple ⟨[.bool false]⟩) Ga) (h:K Ga ds w) :
  Td P (Oper.mk dst (.next x false) ty pos after g) fr ds w K Q:=by
 have l:w.heap[b]?=some (.mapIter (some m) c ⟨[p,q]⟩ c):=a.get f;have n:w.heap[m]?=some (.map ⟨[⟨a0,v0,je⟩,⟨oa,v1,de⟩]⟩ c):=a.get hm;have o:¬ je ≥ c:=by omega
 have r:¬ de ≥ c:=by omega
 have s:¬ ∀ (i:Nat) (x:i<2),c≤([⟨a0,v0,je⟩,⟨oa,v1,de⟩]:List MapEntry)[i].born:=fun h=>by have:=h 0 (by decide);simp at this;omega
 have t:¬ de=je:=by omega
 have u:¬ je=de:=by omega
 refine qi (w':=w) ?_ xa h;rcases j with ⟨rfl,rfl⟩ | ⟨rfl,rfl⟩<;>simp [execOp,e ds,Instr.next,getObj,setObj,Sem.run,l,n,Result.andThen,o,r,t,u,s,choose,Question.forced]
theorem ly {x:Operand}{b m c d k je de:Nat}{a0 v0 oa v1:Value}{seen:List Nat}{e:MapEntry}(f:ob fr x (.pointer (some ⟨b,0,none⟩))) (a:ha μ ca w rs) (i:nc rs d (.en b m c seen c)) (hm:nc rs k (.map m [⟨a0,v0,je⟩,⟨oa,v1,de⟩] c)) (r:je<de)
  (j:seen.getLast?=some e.born) (he:e=⟨a0,v0,je⟩∨e=⟨oa,v1,de⟩) (xa:lf fr dst (.tuple ⟨[e.key,e.val]⟩) Ga) (h:K Ga ds w) :
  Td P (Oper.mk dst (.entry x) ty pos after g) fr ds w K Q:=by
 have l:w.heap[b]?=some (.mapIter (some m) c ⟨seen⟩ c):=a.get i;have n:w.heap[m]?=some (.map ⟨[⟨a0,v0,je⟩,⟨oa,v1,de⟩]⟩ c):=a.get hm;have o:¬ de=je:=by omega
 have p:¬ je=de:=by omega
 have q:(⟨seen⟩:Array Nat).back?=some e.born:=by rw [← j];simp [Array.back?,List.getLast?_eq_getElem?]
 refine qi (w':=w) ?_ xa h;rcases he with rfl | rfl<;>simp [execOp,f ds,Instr.entry,getObj,Sem.run,l,n,Result.andThen,q,o,p]
end
end Go.ec
namespace Go.ec
open Go.Rb Go.RowKit
section
variable {P:Program}{Q:Exit→Act→World→Prop}{K:List Value→List Deferred→World→Prop}{fr Ga:List Value}{ds:List Deferred}{w:World}
variable {dst:Option Tmp}{ty:TypeId}{pos:String}{after:Array Edge}{g:Option (Nat×Bool)}
structure KA (P:Program) (f:FuncId) (args:List Value) (w:World) (R:Value→World→Prop):Prop where
 out:CallsD P f ⟨args⟩ .returning w fun e a w'=>a=.returning∧okV R e w'
theorem IF {fn:Func}{R a:Value→World→Prop}{k:FuncId}{cap vs:List Value}(b:Wb P k) (d:KA P k (vs++cap) w a) (h:∀ v w',a v w'→Es P fn R .ret (F fr ds) w') :
  Es P fn R .ret (F fr (⟨.fn (.func k) ⟨cap⟩,⟨vs⟩⟩::ds)) w:=by
 refine ⟨by simp,.func k,⟨cap⟩,k,⟨vs++cap⟩,rfl,?_,?_⟩
 ·have:=b.out ⟨vs++cap⟩ w;simp [invoke,this]
 ·refine d.out.mono fun e f w' he=>?_;obtain ⟨rfl,he⟩:=he;cases e with
  | returned v=>exact h v w' he
  | panicked c=>exact he.elim
  | outgrown=>exact he.elim
theorem mL {P:Program}{T:TypeId}{ms:Array (String×TypeId)}{v:Value}{b:Bool}(hu:P.underlying T=some (.interface ms)) (e:(v=.nilIface∧b=true)∨((∃ a c,v=.iface a c)∧b=false)):qv P 1 T v .nilIface b:=⟨fun d w xa=>by
 cases d with
 | zero=>omega
 | succ d=>rcases e with ⟨rfl,rfl⟩ | ⟨⟨a,c,rfl⟩,rfl⟩ <;> simp [Op.equalIn,run_underlying hu]⟩
theorem eB {x:Operand}{t ib:TypeId}{v:Value}{b:Bool}{ms:Array (String×TypeId)}(hu:P.underlying t=some (.interface ms)) (e:ob fr x v) (d:(v=.nilIface∧b=true)∨((∃ a c,v=.iface a c)∧b=false)) (f:lf fr dst (.bool b) Ga) (k:K Ga ds w) :
  Td P (Oper.mk dst (.binOp .eql t x (.const .nilIface) ib) ty pos after g) fr ds w K Q:=by
 refine Ra ⟨fun ds w=>?_⟩ f k;have h:=e ds;have i:(F fr ds).eval (.const .nilIface)=.nilIface:=rfl;have j:=(mL hu d).out Op.maxDepth w (by decide);rcases d with ⟨rfl,rfl⟩ | ⟨⟨a,c,rfl⟩,rfl⟩<;>simp [execOp,h,i,eqGuard,binOp,Op.equal,j]
end
end Go.ec
namespace Go.ec
open Go.Rb Go.RowKit
def gO (agg:Bool) (cs:List Value):Value:=if agg then .agg ⟨cs⟩ else cs.headD undef
structure Xy (P:Program) (I:M) (K:Nat) (Yy:List Value){α:Type}[ab α] (agg:Bool) (e:α→Option Bool):Prop where
 ZF:Wb P K
 call:∀ {a:M}{ca c:World}{rs:List kb}{x:α}{b:Bool}{cs:List Value},ga I a→ab.cs a cs x→e x=some b→ha a ca c rs→wc P K ([gO agg cs]++Yy) c (fun v w'=>∃ d,v=.bool b∧ga a d∧ha d ca w' rs)
theorem Xy.up {P:Program}{μ J:M}{K:Nat}{Yy:List Value}{α:Type}[ab α]{agg:Bool}{a:α→Option Bool}(h:Xy P μ K Yy agg a) (l:ga μ J):Xy P J K Yy agg a:=⟨h.ZF,fun ia=>h.call (l.t ia)⟩
end Go.ec
namespace Go.ec
open Go.Rb Go.RowKit
section
variable {P:Program}{Q:Exit→Act→World→Prop}{K:List Value→List Deferred→World→Prop}{fr Ga:List Value}{ds:List Deferred}{w w':World}
variable {dst:Option Tmp}{ty:TypeId}{pos:String}{after:Array Edge}{g:Option (Nat×Bool)}
variable {ca:World}{rs rs':List kb}{μ J:M}
variable {T:TypeId}{d:TypeDesc}{td:Bool}{yd:List Value}{n m:Nat}
def lv (a b:Int):Option Int:=if b=0 then none else some (a.tmod b)
theorem my {a b c:Int}(h:lv a b=some c):b≠0∧a.tmod b=c:=by
 unfold lv at h;split at h
 ·cases h
 ·rename_i d;exact ⟨d,Option.some.inj h⟩
theorem XE {x y:Operand}{t ib:TypeId}{d:TypeDesc}{a b:Int}(hu:P.underlying t=some d) (c:ob fr x (.int .i64 a)) (f:ob fr y (.int .i64 b)):Zf P (Oper.mk dst (.call { callee:=.builtin .min,args:=#[x,y],argTypes:=#[t,ib] }) ty pos after g) fr (.int .i64 (min a b)):=⟨fun ds w=>by
 have i:=c ds;have j:=f ds;have e:min a b=if b<a then b else a:=by simp only [Int.min_def];split<;>split<;>omega
 rw [e];by_cases h:b<a<;>simp [execOp,resolve,invoke,builtin,i,j,Builtin.min_,Builtin.min2,h]⟩
theorem YE {x y:Operand}{t ib:TypeId}{d:TypeDesc}{a b:Int}(hu:P.underlying t=some d) (c:ob fr x (.int .i64 a)) (f:ob fr y (.int .i64 b)):Zf P (Oper.mk dst (.call { callee:=.builtin .max,args:=#[x,y],argTypes:=#[t,ib] }) ty pos after g) fr (.int .i64 (max a b)):=⟨fun ds w=>by
 have i:=c ds;have j:=f ds;have e:max a b=if a<b then b else a:=by simp only [Int.max_def];split<;>split<;>omega
 rw [e];by_cases h:a<b<;>simp [execOp,resolve,invoke,builtin,i,j,Builtin.max_,Builtin.max2,h]⟩
end
end Go.ec
namespace Go.ec
open Go.Rb Go.RowKit
instance:ab UInt8 where
 sz:=1
 pos:=by decide
 cs _ l x:=l=[.int .u8 x.toNat]
 sj h:=by rw [h];rfl
 up _ h:=h
 Yh h:=by rw [h];rfl
def QB (l:List UInt8):Option Int:=if l.length≤9223372036854775806 then (match Lib.parseIntB 64 l with | .ok v=>some v | _=>none) else none
def Ny (l sub:List UInt8):Option Bool:=if l.length<4294967281 then some (Lib.contains l sub) else none
end Go.ec
namespace Go.ec
open Go.Rb Go.RowKit
section
variable {μ FQ:M}{ca w w':World}{rs:List kb}{T:TypeId}
def cn {α:Type}(B:Nat) (l:List α) (xs:List α):Option (List α):=if l.length+xs.length≤B then some (l++xs) else none
theorem sE {α:Type}{B:Nat}{a b c:List α}(h:cn B a b=some c):c=a++b∧a.length+b.length≤B:=by
 unfold cn at h;split at h
 ·rename_i k;exact ⟨(Option.some.inj h).symm,k⟩
 ·cases h
theorem Na.cn {α:Type}[ab α]{B:Nat}{cells news:List Value}{l xs a:List α}(h:Na μ cells l) (k:Na μ news xs) (g:cn B l xs=some a):Na μ (cells++news) a:=by
 obtain ⟨rfl,-⟩:=sE g;exact Na.cat k h
end
section
variable {P:Program}{Q:Exit→Act→World→Prop}{K:List Value→List Deferred→World→Prop}{fr Ga:List Value}{ds:List Deferred}{w w':World}
variable {dst:Option Tmp}{ty:TypeId}{pos:String}{after:Array Edge}{g:Option (Nat×Bool)}{T:TypeId}{td:Bool}{yd:List Value}{rs rs':List kb}{μ:M}{ca:World}
theorem ny {α:Type}[ab α]{B:Nat}{t:TypeId}{s x:Operand}{v:Value}{bytes k b e c:Nat}{cells news:List Value}{l ys f:List α}(n:P.underlying t=some (.slice T)) (o:Nc P T td yd (ab.sz α) bytes) (p:yd.length=ab.sz α)
  (q:ob fr s v) (r:ob fr x (.slice (some ⟨b,0,none⟩) e c)) (i:ha μ ca w rs) (ia:nc rs k (.row v T (ab.sz α) l.length cells)) (y:Nj w b 0 news) (m:Na μ news ys) (hm:ys.length=e) (z:cn B l ys=some f) (A:B*bytes≤140737488355328∧B≤9223372036854775807)
  (h:∀ d w' rs',uc rs k (.row d T (ab.sz α) f.length (cells++news)) rs'→ha μ ca w' rs'→Hh fr dst d fun Ga=>K Ga ds w') :
  Td P (Oper.mk dst (.call { callee:=.builtin .append,args:=#[s,x],argTypes:=#[t,t] }) ty pos after g) fr ds w K Q:=by
 obtain ⟨rfl,C⟩:=sE z;subst hm;have D:(l.length+ys.length)*bytes≤140737488355328:=Nat.le_trans (Nat.mul_le_mul_right _ C) A.1;obtain ⟨d,w',E,F,G,H⟩:=pC (P:=P) (ty:=ty) n o p ab.pos (i.get ia) (a:=⟨b,0,none⟩) (c:=c) m.len (fun j u hu=>by rw [Ak];exact y j u hu) (fun u hu=>rA (List.all_eq_true.1 m.Yh u hu)) (by unfold maxLen;omega) D;obtain ⟨Ga,xa⟩:=vj fr dst d;have hlen:(l++ys).length=l.length+ys.length:=List.length_append;rw [hlen] at h;refine qi (v:=d) (w':=w') ?_ xa (h d w' _ rfl (i.row ia rfl F G H) Ga xa);have qa:=q ds;have L:=r ds;simp [execOp,resolve,invoke,builtin,qa,L,E]
end
end Go.ec
namespace Go.ec
open Go.Rb Go.RowKit
section
variable {P:Program}{Q:Exit→Act→World→Prop}{K:List Value→List Deferred→World→Prop}{fr Ga:List Value}{ds:List Deferred}{w:World}
variable {dst:Option Tmp}{ty:TypeId}{pos:String}{after:Array Edge}{g:Option (Nat×Bool)}
variable {ca:World}{rs rs':List kb}{μ J:M}{Li α:Type}
def RB (V:Li→Value) (r:Except Li α) (R:α→Value→World→Prop) (E:World→Prop):Ending→World→Prop
 | .returned v,w=>∃ x,r=.ok x∧R x v w
 | .panicked a,w=>∃ e,r=.error e∧a=[{ v:=V e,recovered:=false }]∧E w
 | .outgrown,_=>False
structure xc (P:Program) (f:FuncId) (args:List Value) (w:World) (V:Li→Value) (r:Except Li α) (R:α→Value→World→Prop) (E:World→Prop):Prop where
 out:Calls P f ⟨args⟩ w (RB V r R E)
def Rt (P:Program) (fn:Func) (V:Li→Value) (r:Except Li α) (R:α→Value→World→Prop) (E:World→Prop):Exit→Act→World→Prop:=bodyPost P fn (RB V r R E)
theorem pf {f:FuncId}{fn:Func}{c:Code}{args frm:List Value}{V:Li→Value}{r:Except Li α}{R:α→Value→World→Prop}{E:World→Prop}(a:P.funcs[f]?=some fn) (b:fn.body=some c)
  (d:args++List.replicate (fn.ntmps - args.length) undef=frm) (h:Ie P c (Rt P fn V r R E) frm [] w):xc P f args w V r R E:=by
 refine ⟨calls_of_wp a b ?_⟩;subst d;have:(⟨args⟩:Array Value)++Array.replicate (fn.ntmps - args.length) undef=⟨args++List.replicate (fn.ntmps - args.length) undef⟩:=by
  apply Array.ext';simp
 have h:=h.out;simpa [F,Rt,this] using h
variable {fn:Func}{V:Li→Value}{x:α}{r:Except Li α}{R:α→Value→World→Prop}{E:World→Prop}
theorem hO {a:Act}(h:nr P fn (R x) .ret a w):Rt P fn V (.ok x) R E .ret a w:=by
 obtain ⟨b,v,c,d⟩:=h;exact ⟨b,v,c,x,rfl,d⟩
theorem KN {a:Act}(h:nr P fn (R x) .normal a w):Rt P fn V (.ok x) R E .normal a w:=by
 obtain ⟨b,v,c,d⟩:=h;exact ⟨b,v,c,x,rfl,d⟩
theorem hG {e:Li}(h:E w):Rt P fn V (.error e) R E (.panic [{ v:=V e,recovered:=false }]) (F fr []) w:=⟨rfl,e,rfl,rfl,h⟩
def gv (P:Program) (fn:Func) (R:Value→World→Prop):Exit→Act→World→Prop:=bodyPostD P fn (okV R)
def Ay (fn:Func):List Nat:=fn.results.toList.map fun r=>match r with | .tmp t=>t | .cell a _=>a
theorem sH {b:List Value}{d:Nat}{v:Value}{r:ResultVar}(h:(match r with | .tmp t=>t | .cell a _=>a)≠d):Ho ⟨b.set d v⟩ r=Ho ⟨b⟩ r:=by
 cases r with
 | tmp t =>
  have:t≠d:=h;simp [Ho,List.getElem?_set,Ne.symm this]
 | cell a t =>
  have:a≠d:=h;simp [Ho,List.getElem?_set,Ne.symm this]
theorem RG {fn:Func}{b:List Value}{d:Nat}{v:Value}(h:(Ay fn).contains d=false):results fn ⟨b.set d v⟩=results fn ⟨b⟩:=by
 rw [Pz,Pz];have key:∀ l:List ResultVar,(∀ r ∈ l,(match r with | .tmp t=>t | .cell a _=>a)≠d)→l.mapM (Ho ⟨b.set d v⟩)=l.mapM (Ho ⟨b⟩):=by
  intro l ia
  induction l with
  | nil=>rfl
  | cons r l f =>
   rw [List.mapM_cons,List.mapM_cons,sH (ia r (by simp)),f fun r c=>ia r (by simp [c])]
 have g:∀ r ∈ fn.results.toList,(match r with | .tmp t=>t | .cell a _=>a)≠d:=by
  intro r c e;have:d ∈ Ay fn:=List.mem_map.2 ⟨r,c,e⟩;simp [List.contains_iff_mem,this] at h
 rw [Array.mapM_eq_mapM_toList,Array.mapM_eq_mapM_toList,key _ g]
theorem Leaves.set {fn:Func}{c:List Value}{d:Nat}{v:Value}{R:Ending→World→Prop}(h:(Ay fn).contains d=false):∀ (ds:List Deferred) (u:FrameMode) (w:World),Leaves P fn ⟨c.set d v⟩ R ds u w→Leaves P fn ⟨c⟩ R ds u w
 | [],.returning,w,ia=>by
  obtain ⟨x,a,b⟩:=ia;exact ⟨x,by rw [← a,RG h],b⟩
 | [],.panicking g,w,ia=>ia
 | [],.run,w,ia=>ia
 | l::ds,u,w,ia=>by
  obtain ⟨i,j,cap,f,args,a,b,k⟩:=ia;refine ⟨i,j,cap,f,args,a,b,k.mono fun e m w' he=>?_⟩;cases e with
  | returned x=>exact Leaves.set h ds _ _ he
  | panicked g=>exact Leaves.set h ds _ _ he
  | outgrown=>exact he
theorem cu {fn:Func}{R:Value→World→Prop}{a:List PanicEntry}{d:Nat}{v:Value}(xa:(Ay fn).contains d=false) (h:gv P fn R (.panic a) (F (fr.set d v) ds) w):gv P fn R (.panic a) (F fr ds) w:=Leaves.set xa _ _ _ h
theorem UJ {f:FuncId}{fn:Func}{c:Code}{args frm:List Value}{R:Value→World→Prop}(a:P.funcs[f]?=some fn) (b:fn.body=some c)
  (d:args++List.replicate (fn.ntmps - args.length) undef=frm) (h:Ie P c (gv P fn R) frm [] w):wc P f args w R:=by
 refine ⟨Calls.mono (calls_of_wp_defers (R:=okV R) a b ?_) fun e w he=>by cases e<;>exact he⟩;subst d;have qa:(⟨args⟩:Array Value)++Array.replicate (fn.ntmps - args.length) undef=⟨args++List.replicate (fn.ntmps - args.length) undef⟩:=by
  apply Array.ext';simp
 have h:=h.out;simpa [F,qa,gv] using h
theorem iG {fn:Func}{R:Value→World→Prop}{a:Act}(h:Es P fn R .ret a w):gv P fn R .ret a w:=h
structure UD (P:Program) (f:FuncId) (args:List Value) (a:List PanicEntry) (w:World) (R:World→Prop):Prop where
 out:CallsD P f ⟨args⟩ (.panicking a) w fun e b w'=>settle b=.returning∧okV (fun _ w'=>R w') e w'
theorem iO {fn:Func}{R:Value→World→Prop}{v:Value}{a:World→Prop}{k:FuncId}{cap vs:List Value}(b:Wb P k) (d:UD P k (vs++cap) [{ v,recovered:=false }] w a) (h:∀ w',a w'→Es P fn R .ret (F fr ds) w') :
  gv P fn R (.panic [{ v,recovered:=false }]) (F fr (⟨.fn (.func k) ⟨cap⟩,⟨vs⟩⟩::ds)) w:=by
 refine ⟨by simp,.func k,⟨cap⟩,k,⟨vs++cap⟩,rfl,?_,?_⟩
 ·have:=b.out ⟨vs++cap⟩ w;simp [invoke,this]
 ·refine d.out.mono fun e f w' he=>?_;obtain ⟨hu,he⟩:=he;cases e with
  | returned v =>
   show Leaves P fn ⟨fr⟩ (okV R) ds (settle f) w';rw [hu];exact h w' he
  | panicked c=>exact he.elim
  | outgrown=>exact he.elim
end
end Go.ec
namespace Go.ec
open Go.Rb Go.RowKit
section
variable {P:Program}{Q:Exit→Act→World→Prop}{K:List Value→List Deferred→World→Prop}{fr Ga:List Value}{ds:List Deferred}{w:World}
variable {dst:Option Tmp}{ty:TypeId}{pos:String}{after:Array Edge}{g:Option (Nat×Bool)}{Li α:Type}
variable {V:Li→Value}{r:Except Li α}{R:α→Value→World→Prop}{E:World→Prop}
theorem LA {f:Operand}{xs:List Operand}{tys:Array TypeId}{k:FuncId}{cap vs:List Value}(d:Wb P k) (i:ob fr f (.func (.func k) #[] ⟨cap⟩)) (j:Em fr xs vs)
  (l:xc P k (vs++cap) w V r R E) (h:∀ x v w',r=.ok x→R x v w'→Hh fr dst v fun Ga=>K Ga ds w') (he:∀ e w',r=.error e→E w'→Q (.panic [{ v:=V e,recovered:=false }]) (F fr ds) w'):Td P (Oper.mk dst (.call { callee:=.value f,args:=⟨xs⟩,argTypes:=tys }) ty pos after g) fr ds w K Q:=by
 constructor;intro o m;have n:=qA (w:=w) (dst:=dst) (ty:=ty) (pos:=pos) (after:=after) (g:=g) (tys:=tys) (ds:=ds) (cap:=cap) d i j;unfold Oper.wp;rw [n,Oper.upon_enter];exact Calls.mono l.out fun e w' a=>by
  cases e with
  | returned v =>
   obtain ⟨x,b,c⟩:=a;obtain ⟨Ga,xa⟩:=vj fr dst v;exact xa.rw (m _ _ _ (h x v w' b c Ga xa))
  | panicked p =>
   obtain ⟨e,b,rfl,c⟩:=a;exact he e w' b c
  | outgrown=>exact a.elim
theorem qg {fn:Func}{t:Tmp}{x:α}{v:Value}(a:fn.results=#[.tmp t]) (ia:nc fr t v) (b:r=.ok x) (h:R x v w):Rt P fn V r R E .ret (F fr []) w:=by subst b;exact hO (Ob a ia h)
theorem xp {fn:Func}{t:Tmp}{v:Value}(a:fn.results=#[.tmp t]) (ia:nc fr t v) (h:∃ x,r=.ok x∧R x v w):Rt P fn V r R E .ret (F fr []) w:=by obtain ⟨x,b,h⟩:=h;exact qg a ia b h
end
section
variable {P:Program}{Q:Exit→Act→World→Prop}{K:List Value→List Deferred→World→Prop}{fr Ga:List Value}{ds:List Deferred}{w:World}
variable {dst:Option Tmp}{ty:TypeId}{pos:String}{after:Array Edge}{g:Option (Nat×Bool)}
theorem nL {x y:Operand}{t ib b:TypeId}{td:Bool}{yd:List Value}{n m:Nat}{a:Addr}(c:P.underlying t=some (.pointer b)) (e:Nc P b td yd n m)
  (f:ob fr x (.pointer (some a))) (i:ob fr y (.pointer (some a))) (xa:lf fr dst (.bool true) Ga) (h:K Ga ds w):Td P (Oper.mk dst (.binOp .eql t x y ib) ty pos after g) fr ds w K Q:=by
 obtain ⟨j,-,k,-⟩:=e.inf;refine qi (w':=w) ?_ xa h;have qa:=f ds;have l:=i ds;have o:∀ d:Nat,(Op.equalIn (d+1) t (.pointer (some a)) (.pointer (some a))).run P w=.ok true w:=fun d=>by
  simp [Op.equalIn,run_underlying c,sizeOf,typeInfo,k,run_sameAddr_same]
 have p:(Op.equalIn Op.maxDepth t (.pointer (some a)) (.pointer (some a))).run P w=.ok true w:=o 9999;simp [execOp,qa,l,eqGuard,binOp,Op.equal,p]
theorem ZE {x y:Operand}{t ib c e Ca:TypeId}{td:Bool}{yd:List Value}{n m:Nat}{a b:Nat}{Hb f:List Value}(i:P.underlying t=some (.pointer c)) (k:Nc P c td yd n m) (l:n≠0) (o:a≠b) (p:Qk w a e Hb) (q:Qk w b Ca f)
  (r:ob fr x (.pointer (some ⟨a,0,none⟩))) (s:ob fr y (.pointer (some ⟨b,0,none⟩))) (xa:lf fr dst (.bool false) Ga) (h:K Ga ds w):Td P (Oper.mk dst (.binOp .eql t x y ib) ty pos after g) fr ds w K Q:=by
 obtain ⟨j,z,u,-,-,v,-⟩:=k.inf;have A:j.size≠0:=by rw [v];exact l
 refine qi (w':=w) ?_ xa h;have qa:=r ds;have B:=s ds;have nb:(sameAddr ⟨a,0,none⟩ ⟨b,0,none⟩).run P w=.ok false w:=run_sameAddr_other w (fun h=>by cases h;exact o rfl) p q;have C:∀ d:Nat,(Op.equalIn (d+1) t (.pointer (some ⟨a,0,none⟩)) (.pointer (some ⟨b,0,none⟩))).run P w=.ok false w:=fun d=>by
  simp [Op.equalIn,run_underlying i,sizeOf,typeInfo,u,A,nb]
 have D:(Op.equalIn Op.maxDepth t (.pointer (some ⟨a,0,none⟩)) (.pointer (some ⟨b,0,none⟩))).run P w=.ok false w:=C 9999;simp [execOp,qa,B,eqGuard,binOp,Op.equal,D]
theorem aF {x:Operand}{t ib:TypeId}{v:Value}{b:Bool}{Cv:TypeDesc}(a:P.underlying t=some Cv) (e:(match Cv with | .func _ _ _=>true | _=>false)=true) (f:(v=.nilFunc∧b=false)∨((∃ k c d,v=.func k c d)∧b=true))
  (i:ob fr x v) (xa:lf fr dst (.bool b) Ga) (h:K Ga ds w):Td P (Oper.mk dst (.binOp .neq t x (.const .nilFunc) ib) ty pos after g) fr ds w K Q:=by
 refine qi (w':=w) ?_ xa h;have qa:=i ds;have j:(F fr ds).eval (.const .nilFunc)=.nilFunc:=rfl;have l:∀ d:Nat,(Op.equalIn (d+1) t v .nilFunc).run P w=.ok (!b) w:=fun d=>by
  rcases f with ⟨rfl,rfl⟩ | ⟨⟨k,c,d,rfl⟩,rfl⟩<;>cases Cv<;>simp at e<;>simp [Op.equalIn,run_underlying a]
 have m:(Op.equalIn Op.maxDepth t v .nilFunc).run P w=.ok (!b) w:=l 9999;simp [execOp,qa,j,eqGuard,binOp,Op.equal,m]
end
section
variable {P:Program}{Q:Exit→Act→World→Prop}{K:List Value→List Deferred→World→Prop}{fr Ga:List Value}{ds:List Deferred}{w ca:World}
variable {dst:Option Tmp}{ty:TypeId}{pos:String}{after:Array Edge}{g:Option (Nat×Bool)}{μ:M}{rs:List kb}{T:TypeId}{td:Bool}{yd:List Value}
theorem JF {α:Type}[ab α]{x y z:Operand}{a:Option Addr}{c m:Nat}{xs:List α}{e:TypeId}(f:P.underlying T=some (.slice e)) (i:Nc P e td yd (ab.sz α) m) (j:ob fr x (.slice a xs.length c)) (k:ob fr y (.int .i64 xs.length)) (l:ob fr z (.int .i64 xs.length)) (h:Ja μ a c xs) :
  Zf P (Oper.mk dst (.slice T x none (some y) (some z)) ty pos after g) fr (.slice a xs.length xs.length):=by
 refine ⟨fun ds w=>?_⟩;have hle:=h.le;have qa:((xs.length:Nat):Int)≤(c:Int):=by omega
 have nb:(if xs.length=0 then a else a.map (·.add (0*ab.sz α)))=a:=by
  rcases h.el with rfl | ⟨b,o,rfl,-⟩
  ·simp
  ·split<;>simp [Addr.add]
 have d:(execOp (F fr ds).eval (Oper.mk dst (.slice T x none (some y) (some z)) ty pos after g)).run P w=.ok (.value (.slice (if xs.length=0 then a else a.map (·.add (0*ab.sz α))) xs.length xs.length)) w:=by
  simp [execOp,j ds,k ds,l ds,Instr.sliceAt,Instr.slice,run_underlying f,Instr.sliceBounds,Instr.sliceBound,asIntOf,i.sizeOf,hle]
 rw [nb] at d;exact d
theorem Ja.full {α:Type}[ab α]{a:Option Addr}{c:Nat}{xs:List α}(h:Ja μ a c xs):Ja μ a xs.length xs:=⟨Nat.le_refl _,Nat.le_trans h.le h.cap,h.el⟩
theorem bF {α:Type}[ab α]{t:TypeId}{s x:Operand}{bytes b y c:Nat}{a:Option Addr}{news:List Value}{xs ys A:List α}(G:P.underlying t=some (.slice T)) (H:Nc P T td yd (ab.sz α) bytes) (L:yd.length=ab.sz α)
  (M:ob fr s (.slice a xs.length xs.length)) (N:ob fr x (.slice (some ⟨b,0,none⟩) y c)) (hm:Ja μ a xs.length xs) (d:ha μ ca w rs) (O:Nj w b 0 news) (o:Na μ news ys) (Z:ys.length=y) (Pi:0<y) (bb:app xs ys=some A) (R:bytes≤4096)
  (h:∀ l S w',Na μ S A→ha μ ca w' (.row l T (ab.sz α) A.length S::rs)→Hh fr dst l fun Ga=>K Ga ds w') :
  Td P (Oper.mk dst (.call { callee:=.builtin .append,args:=#[s,x],argTypes:=#[t,t] }) ty pos after g) fr ds w K Q:=by
 obtain ⟨rfl,U⟩:=dw bb;obtain ⟨p,B,Gb⟩:=Ja.cells hm;subst Z;have hlen:=o.len;have gc:(xs.length+ys.length)*bytes≤140737488355328:=Nat.le_trans (Nat.mul_le_mul U R) (by decide);have lc:a=none→xs=[]:=fun rc=>by
  rcases hm.el with q | ⟨Ic,fd,q,-⟩
  ·exact q
  ·rw [rc] at q;cases q
 cases a with
 | none =>
  have:=lc rfl;subst this;refine Xx (k:=0) (n:=0) (xs:=[]) G H (by simp [L,ab.pos]) M N (d.Ml T (ab.sz α)) rfl O hlen o.Yh ⟨by simpa using U,R⟩ fun l w' rs' id md=>?_;cases (show _=rs' from id);exact h l news w' o (by simpa using md)
 | some V =>
  obtain ⟨i,z,qa,C,nd,rd,wd⟩:∃ (i:TypeInfo) (z:Value),P.info? T=some i∧i.zero=some z∧i.size=ab.sz α∧i.bytes=bytes∧z.cells.size=ab.sz α:=by
   obtain ⟨i,z,Fd,Id,be,ce,ge⟩:=H.inf;exact ⟨i,z,Fd,Id,ce,ge,by rw [be];exact L⟩
  have hold:∀ j u,p[j]?=some u→w.cell? (V.add j)=some u:=fun j u hu=>by
   have D:xs≠[]:=by
    rintro rfl;have:p=[]:=B;subst this;simp at hu
   obtain ⟨Ic,fd,he,le⟩:=Gb D;cases he;rw [Ak];exact le _ d.a j u hu
  obtain ⟨l,w',ne,Ne,e⟩:=run_append_arg_grows (P:=P) w t ty T i z (ab.sz α) bytes G qa C nd rd wd ab.pos V xs.length xs.length p B.len hold ⟨b,0,none⟩ ys.length c news hlen (fun j u hu=>by rw [Ak];exact O j u hu) (by omega) (by unfold maxLen;omega) gc;obtain ⟨Ga,xa⟩:=vj fr dst l;have D:¬ (l=.slice none 0 0∧xs.length+ys.length=0):=fun q=>by omega
  obtain ⟨of,q⟩:=Ne;obtain ⟨f,cap,cur,rfl,wf,W,jb,c2,c3,c4⟩:=q.resolve_left D;have If:Grow w w':=⟨e.os,e.tape,e.output,e.size,fun k dg _=>e.block k dg (by simp)⟩;have X:=d.grow If;have rg:f ∉ blocks rs:=fun E=>by have:=d.lt E;omega
  have kk:f<w'.heap.size:=(Array.getElem?_eq_some_iff.1 W).1;have bi:ha μ ca w' (.row (.slice (some ⟨f,0,none⟩) (xs.length+ys.length) cap) T (ab.sz α) (xs++ys).length (p++news)::rs):=by
   refine ⟨X.keeps,fun r F=>?_,?_,fun b m=>?_,?_⟩
   ·rcases List.mem_cons.1 F with rfl | F
    ·rw [List.length_append];exact ⟨of,.inr ⟨f,0,cap,cur,rfl,W,jb,c2,by omega,by simpa using c4⟩⟩
    ·exact X.all r F
   ·show (f::blocks rs).Nodup;exact List.nodup_cons.2 ⟨rg,d.ej⟩
   ·rcases List.mem_cons.1 (show b ∈ f::blocks rs from m) with rfl | m
    ·exact .inl (Nat.le_trans d.keeps.size wf)
    ·exact d.new b m
   ·intro ci ii li;refine d.Yj ci (Nat.le_trans e.size ii) fun b m Y=>?_;have pi:b≠f:=by omega
    exact (li b (by have:=e.size;omega) ⟨Y.1,fun E=>(List.mem_cons.1 (show b ∈ f::blocks rs from E)).elim pi Y.2⟩).trans (e.block b m (by simp))
  refine qi (v:=_) (w':=w') ?_ xa (h _ _ w' (o.cat B) bi Ga xa);have qa:=M ds;have C:=N ds;simp [execOp,resolve,invoke,builtin,qa,C,ne]
end
section
variable {S ld:Nat→Prop}{ca w:World}{A:World→Prop}
theorem _root_.Go.Rb.Sep.SB {a g t:List kb}(h:Sep S ld ca w (g++(a++t)) A):Sep S ld ca w (a++(g++t)) A:=h.perm (by
 rw [← List.append_assoc,← List.append_assoc];exact List.perm_append_comm.append_right t)
end
structure Jc where
 b:Nat
instance:ab Jc where
 sz:=1
 pos:=by decide
 cs _ l x:=l=[.pointer (some ⟨x.b,0,none⟩)]
 sj h:=by subst h;rfl
 up _ h:=h
 Yh h:=by subst h;rfl
structure Xl where
 b:Option Nat
instance:Zh Xl where
 Hj _ v x:=v=match x.b with | none=>.pointer none | some b=>.pointer (some ⟨b,0,none⟩)
 up _ h:=h
section
variable {P:Program}{Q:Exit→Act→World→Prop}{K:List Value→List Deferred→World→Prop}{fr Ga:List Value}{ds:List Deferred}{w:World}
variable {dst:Option Tmp}{ty:TypeId}{pos:String}{after:Array Edge}{g:Option (Nat×Bool)}
theorem VJ {x:Operand}{t:TypeId}{v:Value}(a:ob fr x (.iface t v)) (h:Q (.panic [{ v:=.iface t v,recovered:=false }]) (F fr ds) w):Td P (Oper.mk dst (.panic x) ty pos after g) fr ds w K Q:=by
 constructor;intro b c;have e:(execOp (F fr ds).eval (Oper.mk dst (.panic x) ty pos after g)).run P w=.halt (.panic (.iface t v)) w:=by
  simp [execOp,a ds];rfl
 unfold Oper.wp;rw [e,Oper.upon_panic];exact h
theorem WJ {x:Operand}{t:TypeId}{v:Value}(a:P.concrete t=true) (b:ob fr x v) (c:lf fr dst (.iface t v) Ga) (h:K Ga ds w):Td P (Oper.mk dst (.makeInterface t x) ty pos after g) fr ds w K Q:=by
 refine qi (v:=.iface t v) (w':=w) ?_ c h;have:=run_makeInterface (P:=P) (w:=w) t v a;simp [execOp,b ds,this]
end
end Go.ec
namespace Go.ec
open Go.Rb Go.RowKit
section
variable {P:Program}{Q:Exit→Act→World→Prop}{K:List Value→List Deferred→World→Prop}{fr Ga:List Value}{ds:List Deferred}{w ca:World}
variable {dst:Option Tmp}{ty:TypeId}{pos:String}{after:Array Edge}{g:Option (Nat×Bool)}{S ld:Nat→Prop}{A:World→Prop}{rs rs':List kb}{T:TypeId}
def Nl (es:List MapEntry) (c:Nat) (k z:Value):List MapEntry:=match Lk es k with
 | some (i,_)=>es.modify i fun e=>{ e with key:=k }
 | none=>es++[{ key:=k,val:=z,born:=c }]
def dp (es:List MapEntry) (c:Nat) (k:Value):Nat:=match Lk es k with
 | some (i,_)=>((es[i]?).map (·.born)).getD 0
 | none=>c
theorem oL {x y:Operand}{nf aa:TypeId}{d:TypeDesc}{kv z:Value}{b c k:Nat}{es:List MapEntry}(m:P.underlying T=some (.map nf aa)) (n:P.underlying nf=some d) (B:∀ w,(zeroValue aa).run P w=.ok z w) (o:ob fr x (.map (some b))) (p:ob fr y kv) (a:Nk d kv)
  (q:Sep S ld ca w rs A) (ia:nc rs k (.map b es c)) (he:∀ e ∈ es,Nk d e.key)
  (h:∀ u w' rs',uc rs k (.map b (Nl es c kv z) (Tj es c kv)) rs'→Sep S ld ca w' rs' A→Hh fr dst (.tuple #[u,.int .i64 (dp es c kv)]) fun Ga=>K Ga ds w'):Td P (Oper.mk dst (.mapEntry T x y) ty pos after g) fr ds w K Q:=by
 have f:w.heap[b]?=some (.map ⟨es⟩ c):=q.get ia;have C:b<w.heap.size:=(Array.getElem?_eq_some_iff.1 f).1
 let w':World:={ w with heap:=w.heap.setIfInBounds b (.map ⟨Nl es c kv z⟩ (Tj es c kv)) }
 have D:bj (fun k=>k≠b) w w':=⟨rfl,rfl,rfl,by simp [w'],fun j _ E=>by simp [w',Array.getElem?_setIfInBounds,Ne.symm E]⟩;have r:=q.put (b:=b) (r':=.map b (Nl es c kv z) (Tj es c kv)) (w':=w') ia rfl rfl rfl (by show w'.heap[b]?=_;simp [w',C]) D;have s:=run_checkKey (P:=P) (w:=w) (b:=false) n a;have t:=run_findKey (P:=P) (w:=w) n a he;cases l:Lk es kv with
 | none =>
  obtain ⟨Ga,xa⟩:=vj fr dst (.tuple #[z,.int .i64 (dp es c kv)]);refine qi (w':=w') ?_ xa (h z w' _ rfl r Ga xa);simp [execOp,o ds,p ds,Instr.mapEntry,run_underlying m,getObj,setObj,Sem.run,f,Result.andThen,s,t,l,w',Nl,Tj,dp,B,goInt]
 | some e =>
  obtain ⟨i,u⟩:=e;obtain ⟨e,v,F,-⟩:=Qz l;have G:=zD a (he e (List.mem_of_getElem? v)) F;obtain ⟨Ga,xa⟩:=vj fr dst (.tuple #[u,.int .i64 (dp es c kv)]);refine qi (w':=w') ?_ xa (h u w' _ rfl r Ga xa);simp [execOp,o ds,p ds,Instr.mapEntry,run_underlying m,getObj,setObj,Sem.run,f,Result.andThen,s,t,l,v,Instr.keyThatStays,G,w',Nl,Tj,dp,goInt]
theorem VD {α:Type}{f:α→α}{e:α}:∀ {es:List α},(es++[e]).modify es.length f=es++[f e]
 | []=>rfl
 | a::es=>by
  show (a::(es++[e])).modify (es.length+1) f=a::(es++[f e]);rw [List.modify_succ_cons,VD]
theorem OI {es:List MapEntry}{c:Nat}{kv z:Value}(k:∀ e ∈ es,e.born<c) (l:es.Pairwise fun a b=>a.born<b.born):(Nl es c kv z).findIdx? (fun e=>((e.born:Int) == ((dp es c kv:Nat):Int)))=some (match Lk es kv with | some (i,_)=>i | none=>es.length):=by
 rw [List.findIdx?_eq_some_iff_getElem];cases f:Lk es kv with
 | none =>
  simp only [Nl,dp,f];refine ⟨by simp,by simp,fun j d=>?_⟩;have:=k _ (List.getElem_mem (by simpa using d:j<es.length));rw [List.getElem_append_left (by simpa using d)];simp only [beq_iff_eq];omega
 | some e =>
  obtain ⟨i,u⟩:=e;obtain ⟨e,g,n,-⟩:=Qz f;obtain ⟨h,rfl⟩:=List.getElem?_eq_some_iff.1 g;simp only [Nl,dp,f,g,Option.map_some,Option.getD_some];refine ⟨by simpa using h,by simp,fun j d=>?_⟩;have m:j<es.length:=by have:j<i:=d;omega
  have:=List.pairwise_iff_getElem.1 l j i m h d;rw [List.getElem_modify];split
  ·omega
  ·simp only [beq_iff_eq];omega
theorem pL {x s z:Operand}{kv v z0:Value}{b c k:Nat}{es:List MapEntry}(m:ob fr x (.map (some b))) (n:ob fr s (.int .i64 (dp es c kv))) (o:ob fr z v)
  (p:Sep S ld ca w rs A) (ia:nc rs k (.map b (Nl es c kv z0) (Tj es c kv))) (q:∀ e ∈ es,e.born<c) (r:es.Pairwise fun a b=>a.born<b.born)
  (xa:lf fr dst undef Ga) (h:∀ w' rs',uc rs k (.map b (putAt es c kv v) (Tj es c kv)) rs'→Sep S ld ca w' rs' A→K Ga ds w'):Td P (Oper.mk dst (.entryStore T x s z) ty pos after g) fr ds w K Q:=by
 have l:w.heap[b]?=some (.map ⟨Nl es c kv z0⟩ (Tj es c kv)):=p.get ia;have t:b<w.heap.size:=(Array.getElem?_eq_some_iff.1 l).1
 let w':World:={ w with heap:=w.heap.setIfInBounds b (.map ⟨putAt es c kv v⟩ (Tj es c kv)) }
 have y:bj (fun k=>k≠b) w w':=⟨rfl,rfl,rfl,by simp [w'],fun j _ B=>by simp [w',Array.getElem?_setIfInBounds,Ne.symm B]⟩;have C:=p.put (b:=b) (r':=.map b (putAt es c kv v) (Tj es c kv)) (w':=w') ia rfl rfl rfl (by show w'.heap[b]?=_;simp [w',t]) y;refine NB (w':=w') ?_ xa (h w' _ rfl C);have d:=OI (kv:=kv) (z:=z0) q r;cases f:Lk es kv with
 | none =>
  rw [f] at d;have hm:(Nl es c kv z0).modify es.length (fun e=>{ e with val:=v })=putAt es c kv v:=by
   simp only [Nl,putAt,f];exact VD
  simp [execOp,m ds,n ds,o ds,Instr.entryStore,getObj,setObj,Sem.run,l,Result.andThen,asInt,asIntOf,d,hm,w']
 | some e =>
  obtain ⟨i,u⟩:=e;rw [f] at d;have hm:(Nl es c kv z0).modify i (fun e=>{ e with val:=v })=putAt es c kv v:=by
   simp only [Nl,putAt,f];rw [List.modify_modify_eq];rfl
  simp [execOp,m ds,n ds,o ds,Instr.entryStore,getObj,setObj,Sem.run,l,Result.andThen,asInt,asIntOf,d,hm,w']
end
section
variable {P:Program}{Q:Exit→Act→World→Prop}{K:List Value→List Deferred→World→Prop}{fr Ga:List Value}{ds:List Deferred}{w ca:World}
variable {dst:Option Tmp}{ty:TypeId}{pos:String}{after:Array Edge}{g:Option (Nat×Bool)}{μ:M}{rs rs':List kb}{T:TypeId}
variable {κ β:Type}[DecidableEq κ] [tb κ] [Zh β]
theorem tE {x y:Operand}{nf aa:TypeId}{z:Value}{b c k:Nat}{es:List MapEntry}{kk:κ}{m:List (κ×β)}(a:P.underlying T=some (.map nf aa)) (d:P.underlying nf=some (tb.xd (κ:=κ))) (e:∀ w,(zeroValue aa).run P w=.ok z w) (f:ob fr x (.map (some b))) (i:ob fr y (tb.key kk))
  (j:ha μ ca w rs) (ia:nc rs k (.map b es c)) (he:ag μ es c m)
  (h:∀ u w' rs',uc rs k (.map b (Nl es c (tb.key kk) z) (Tj es c (tb.key kk))) rs'→ha μ ca w' rs'→Hh fr dst (.tuple #[u,.int .i64 (dp es c (tb.key kk))]) fun Ga=>K Ga ds w'):Td P (Oper.mk dst (.mapEntry T x y) ty pos after g) fr ds w K Q :=
 oL a d e f i (tb.nf kk) j ia he.kv.keys h
theorem uE {x s z:Operand}{v z0:Value}{b c k:Nat}{es:List MapEntry}{kk:κ}{m:List (κ×β)}{xx:β}(d:ob fr x (.map (some b))) (e:ob fr s (.int .i64 (dp es c (tb.key kk)))) (f:ob fr z v) (i:Zh.Hj μ v xx)
  (j:ha μ ca w rs) (ia:nc rs k (.map b (Nl es c (tb.key kk) z0) (Tj es c (tb.key kk)))) (he:ag μ es c m)
  (xa:lf fr dst undef Ga) (h:∀ a c' w' rs',ag μ a c' (zd m kk xx)→uc rs k (.map b a c') rs'→ha μ ca w' rs'→K Ga ds w'):Td P (Oper.mk dst (.entryStore T x s z) ty pos after g) fr ds w K Q :=
 pL d e f j ia he.lt he.inc xa fun w' rs'=>h _ _ w' rs' (he.put kk i)
end
section
variable {P:Program}{Q:Exit→Act→World→Prop}{K:List Value→List Deferred→World→Prop}{fr Ga:List Value}{ds:List Deferred}{w:World}
variable {dst:Option Tmp}{ty:TypeId}{pos:String}{after:Array Edge}{g:Option (Nat×Bool)}
theorem ZM {x:Operand}{a t:TypeId}{v:Value}{d:TypeDesc}(hu:P.underlying t=some d) (xa:(match d with | .interface _=>false | _=>true)=true) (b:ob fr x (.iface t v)) (c:lf fr dst (.tuple #[v,.bool true]) Ga) (h:K Ga ds w):Td P (Oper.mk dst (.typeAssert x a t true) ty pos after g) fr ds w K Q:=by
 refine qi (v:=.tuple #[v,.bool true]) (w':=w) ?_ c h;have qa:=b ds;have e:(Instr.typeAssert (.iface t v) a t true).run P w=.ok (.tuple #[v,.bool true]) w:=by
  unfold Instr.typeAssert;simp only [Sem.run_bind,run_underlying hu,Result.andThen_ok];cases d<;>first | (simp at xa;done) | simp
 simp [execOp,qa,e]
end
end Go.ec
namespace Go.ec
open Go.Rb Go.RowKit
theorem Ph {α:Type}{c:Prop}[Decidable c]{y:Option α}{r:α}{G:Prop}(h:(if c then none else y)=some r) (a:c):G:=by rw [if_pos a] at h;cases h
theorem Kq {α:Type}{c:Prop}[Decidable c]{x:Option α}{r:α}{G:Prop}(h:(if c then x else none)=some r) (a:¬ c):G:=by rw [if_neg a] at h;cases h
section
variable {P:Program}{Q Q':Exit→Act→World→Prop}{fr Ga:List Value}{ds:List Deferred}{w:World}{ops:Array Oper}{y:Code}{id:Nat}{l:List Oper}
theorem ka (h:Ie P y Q' fr ds w):Sf P ops (Exit.then (Po P y Q') Q) [] fr ds w:=Va (pa h)
theorem da (h:Sf P l.toArray (Exit.then (Po P y Q) Q) l fr ds w):Ie P (.seq (.region id l.toArray false) y) Q fr ds w:=Fa (gb h)
theorem Bb (h:Sf P l.toArray (Exit.then (Po P y Q') Q') l fr ds w):Sf P ops (Exit.then (Po P (.seq (.region id l.toArray false) y) Q') Q) [] fr ds w:=Va (pa (Fa (gb h)))
theorem db {x:Code}(h:Ie P x (Exit.then (Po P y Q') Q') fr ds w):Sf P ops (Exit.then (Po P (.seq x y) Q') Q) [] fr ds w:=Va (pa (Fa h))
variable {R R':List Nat}{dst:Tmp}{op:Op}{ty:TypeId}{pos:String}{after:Array Edge}{v:Value}{zb:List Mon}{j d:Nat}{b Ic:Bool}
theorem Le (i:Nat) (S:List Nat) (he:(decide R.Nodup && enabled ops R i && waits ops R S i && Wm ops S R i && S.contains i,R.erase i,ops[i]?)=(true,R',some ⟨some dst,op,ty,pos,after,none⟩)) (a:Zf P ⟨some dst,op,ty,pos,after,none⟩ fr v) (b:uc fr dst v Ga) (h:Df P ops Q zb R' Ga ds w) (c:Xk Q dst:=by first | exact fun _ _ _ _ _ h=>h | exact Wc fun _ _ _ h=>h.2 | exact Wc fun _ _ _ h=>h.2.2):Df P ops Q zb R fr ds w:=Ac S c (congrArg (·.1) he) (congrArg (·.2.1) he) (congrArg (·.2.2) he) a b h
theorem Ik (i:Nat) (S:List Nat) (he:(decide R.Nodup && enabled ops R i && waits ops R S i && Wm ops S R i && S.contains i,R.erase i,ops[i]?)=(true,R',some ⟨some dst,op,ty,pos,after,some (j,b)⟩)) (a:(ops[j]?).bind (·.dst)=some d) (ia:nc fr d (.bool b)) (c:Zf P ⟨some dst,op,ty,pos,after,some (j,b)⟩ fr v) (e:uc fr dst v Ga) (h:Df P ops Q zb R' Ga ds w) (f:Xk Q dst:=by first | exact fun _ _ _ _ _ h=>h | exact Wc fun _ _ _ h=>h.2 | exact Wc fun _ _ _ h=>h.2.2):Df P ops Q zb R fr ds w:=Bk S f (congrArg (·.1) he) (congrArg (·.2.1) he) (congrArg (·.2.2) he) a ia c e h
theorem jg (i:Nat) (S:List Nat) (he:(decide R.Nodup && enabled ops R i && waits ops R S i && Wm ops S R i && S.contains i,R.erase i,ops[i]?)=(true,R',some ⟨some dst,op,ty,pos,after,some (j,b)⟩)) (a:(ops[j]?).bind (·.dst)=some d) (ia:nc fr d (.bool Ic)) (c:(Ic == b)=false) (e:uc fr dst undef Ga) (h:Df P ops Q zb R' Ga ds w) (f:Xk Q dst:=by first | exact fun _ _ _ _ _ h=>h | exact Wc fun _ _ _ h=>h.2 | exact Wc fun _ _ _ h=>h.2.2):Df P ops Q zb R fr ds w:=mh S f (congrArg (·.1) he) (congrArg (·.2.1) he) (congrArg (·.2.2) he) a ia c e h
theorem Sc (i:Nat) (S:List Nat) (he:(decide R.Nodup && enabled ops R i && waits ops R S i && Wm ops S R i && S.contains i,R.erase i,ops[i]?)=(true,R',some ⟨some dst,op,ty,pos,after,none⟩)) (a:Qo P ⟨some dst,op,ty,pos,after,none⟩ fr w v) (b:uc fr dst v Ga) (h:Df P ops Q ((S,fun w'=>Qo P ⟨some dst,op,ty,pos,after,none⟩ fr w' v)::zb) R' Ga ds w) (c:Xk Q dst:=by first | exact fun _ _ _ _ _ h=>h | exact Wc fun _ _ _ h=>h.2 | exact Wc fun _ _ _ h=>h.2.2):Df P ops Q zb R fr ds w:=ng S c (congrArg (·.1) he) (congrArg (·.2.1) he) (congrArg (·.2.2) he) a b h
theorem dn (i:Nat) (S:List Nat) (he:(decide R.Nodup && enabled ops R i && waits ops R S i && Wm ops S R i && S.contains i,R.erase i,ops[i]?)=(true,R',some ⟨some dst,op,ty,pos,after,some (j,b)⟩)) (a:(ops[j]?).bind (·.dst)=some d) (ia:nc fr d (.bool b)) (c:Qo P ⟨some dst,op,ty,pos,after,some (j,b)⟩ fr w v) (e:uc fr dst v Ga) (h:Df P ops Q ((S,fun w'=>Qo P ⟨some dst,op,ty,pos,after,some (j,b)⟩ fr w' v)::zb) R' Ga ds w) (f:Xk Q dst:=by first | exact fun _ _ _ _ _ h=>h | exact Wc fun _ _ _ h=>h.2 | exact Wc fun _ _ _ h=>h.2.2):Df P ops Q zb R fr ds w:=fw S f (congrArg (·.1) he) (congrArg (·.2.1) he) (congrArg (·.2.2) he) a ia c e h
end
class gn (l:List Value) (n:Nat) (v:outParam Value):Prop where out:nc l n v
instance {v:Value}{l:List Value}:gn (v::l) 0 v:=⟨rfl⟩
instance {a v:Value}{l:List Value}{n:Nat}[h:gn l n v]:gn (a::l) (n+1) v:=⟨h.out⟩
instance (priority:=2000){c0 jb c2 c3 c4 c5 ae a hh c9 v:Value}{l:List Value}{n:Nat}[h:gn l n v]:gn (c0::jb::c2::c3::c4::c5::ae::a::hh::c9::l) (n+10) v:=⟨h.out⟩
class Aj (l:List Value) (n:Nat) (v:Value) (a:outParam (List Value)):Prop where out:uc l n v a
instance {a v:Value}{l:List Value}:Aj (a::l) 0 v (v::l):=⟨rfl⟩
instance {a v:Value}{l b:List Value}{n:Nat}[h:Aj l n v b]:Aj (a::l) (n+1) v (a::b):=⟨congrArg (a::·) h.out⟩
instance (priority:=2000){c0 jb c2 c3 c4 c5 ae a hh c9 v:Value}{l b:List Value}{n:Nat}[h:Aj l n v b]:Aj (c0::jb::c2::c3::c4::c5::ae::a::hh::c9::l) (n+10) v (c0::jb::c2::c3::c4::c5::ae::a::hh::c9::b):=⟨congrArg (c0::jb::c2::c3::c4::c5::ae::a::hh::c9::·) h.out⟩
class oh (fr:List Value) (x:Operand) (v:outParam Value):Prop where out:ob fr x v
instance {fr:List Value}{n:Nat}{v:Value}[h:gn fr n v]:oh fr (.tmp n) v:=⟨aa h.out⟩
instance {fr:List Value}{v:Value}:oh fr (.const v) v:=⟨Pa⟩
class vl (P:Program) (op:Op) (fr:List Value) (v:outParam Value):Prop where out:∀ dst ty pos after g,Zf P (Oper.mk dst op ty pos after g) fr v
section
variable {P:Program}{fr:List Value}{x y c:Operand}{v:Value}{t ib:TypeId}{k:IntKind}{a b:Int}
instance [h:oh fr x v]:vl P (.move x) fr v:=⟨fun _ _ _ _ _=>bg h.out⟩
instance [h:oh fr x v]:vl P (.assign x) fr v:=⟨fun _ _ _ _ _=>Xq h.out⟩
instance {a:Addr}[h:oh fr x (.pointer (some a))]:vl P (.nilCheck x) fr (.pointer (some a)):=⟨fun _ _ _ _ _=>fi h.out⟩
instance [c:oh fr x (.int k a)] [d:oh fr y (.int k b)]:vl P (.binOp .eql t x y ib) fr (.bool (decide (a=b))):=⟨fun _ _ _ _ _=>sB c.out d.out⟩
instance [c:oh fr x (.int k a)] [d:oh fr y (.int k b)]:vl P (.binOp .neq t x y ib) fr (.bool (decide (a≠b))):=⟨fun _ _ _ _ _=>nw c.out d.out⟩
instance [c:oh fr x (.int k a)] [d:oh fr y (.int k b)]:vl P (.binOp .lss t x y ib) fr (.bool (decide (a<b))):=⟨fun _ _ _ _ _=>CF c.out d.out⟩
instance [c:oh fr x (.int k a)] [d:oh fr y (.int k b)]:vl P (.binOp .leq t x y ib) fr (.bool (decide (a≤b))):=⟨fun _ _ _ _ _=>KM c.out d.out⟩
instance [c:oh fr x (.int k a)] [d:oh fr y (.int k b)]:vl P (.binOp .gtr t x y ib) fr (.bool (decide (b<a))):=⟨fun _ _ _ _ _=>DF c.out d.out⟩
instance [c:oh fr x (.int k a)] [d:oh fr y (.int k b)]:vl P (.binOp .geq t x y ib) fr (.bool (decide (b≤a))):=⟨fun _ _ _ _ _=>MM c.out d.out⟩
end
section
variable {P:Program}{Q:Exit→Act→World→Prop}{fr Ga:List Value}{ds:List Deferred}{w:World}{ops:Array Oper}{rest:List Oper}{d:Tmp}{op:Op}{ty:TypeId}{pos:String}{after:Array Edge}{v:Value}
theorem st [hu:vl P op fr v] [a:Aj fr d v Ga] (h:Sf P ops Q rest Ga ds w):Sf P ops Q (⟨some d,op,ty,pos,after,none⟩::rest) fr ds w:=wl (Ra (hu.out _ _ _ _ _) (ea a.out) h)
end
class Fw (fr:List Value) (xs:List Operand) (vs:outParam (List Value)):Prop where out:Em fr xs vs
instance {fr:List Value}:Fw fr [] []:=⟨nb⟩
instance {fr:List Value}{x:Operand}{v:Value}{xs:List Operand}{vs:List Value}[h:oh fr x v] [k:Fw fr xs vs]:Fw fr (x::xs) (v::vs):=⟨qa h.out k.out⟩
section
variable {P:Program}{fr:List Value}{x y c:Operand}{v:Value}{t ib T:TypeId}{b:Nat}{o off i:Nat}{vs:List Value}{q:Bool}
instance [a:re P T i off] [h:oh fr x (.pointer (some ⟨b,o,none⟩))]:vl P (.fieldAddr T x i) fr (.pointer (some ⟨b,o+off,none⟩)):=⟨fun _ _ _ _ _=>Eg a h.out rfl⟩
instance [a:oh fr c (.bool true)] [h:oh fr x v]:vl P (.pick c x y) fr v:=⟨fun _ _ _ _ _=>iy a.out h.out⟩
instance [a:oh fr c (.bool false)] [h:oh fr y v]:vl P (.pick c x y) fr v:=⟨fun _ _ _ _ _=>GA a.out h.out⟩
instance [h:oh fr x (.bool q)]:vl P (.unOp .not t x) fr (.bool (!q)):=⟨fun _ _ _ _ _=>EF h.out⟩
instance [h:oh fr x (.tuple ⟨vs⟩)] [k:gn vs i v]:vl P (.extract x i) fr v:=⟨fun _ _ _ _ _=>wy h.out k.out⟩
end
section
variable {P:Program}{Q:Exit→Act→World→Prop}{fr Ga:List Value}{ds:List Deferred}{w:World}{ops:Array Oper}{rest:List Oper}{d:Tmp}{op:Op}{ty:TypeId}{pos:String}{after:Array Edge}{v:Value}{j e:Nat}{b Ic:Bool}
theorem Qa [hu:vl P op fr v] [a:Aj fr d v Ga] (c:(ops[j]?).bind (·.dst)=some e) [ia:gn fr e (.bool b)] (h:Sf P ops Q rest Ga ds w):Sf P ops Q (⟨some d,op,ty,pos,after,some (j,b)⟩::rest) fr ds w:=tc c ia.out (Ra (hu.out _ _ _ _ _) (ea a.out) h)
theorem va [a:Aj fr d undef Ga] (c:(ops[j]?).bind (·.dst)=some e) [ia:gn fr e (.bool Ic)] (f:(Ic == b)=false) (h:Sf P ops Q rest Ga ds w):Sf P ops Q (⟨some d,op,ty,pos,after,some (j,b)⟩::rest) fr ds w:=wn c ia.out f (ea a.out) h
theorem ya {T:TypeId}{yd:List Value}{n m o q:Nat}{x:Operand}[a:Nc P T false yd n m] (b:w.cell? ⟨q,o,none⟩=some v) [c:oh fr x (.pointer (some ⟨q,o,none⟩))] [e:Aj fr d v Ga] (h:Sf P ops Q rest Ga ds w):Sf P ops Q (⟨some d,.load T x,ty,pos,after,none⟩::rest) fr ds w:=wl (Yc a c.out b (ea e.out) h)
theorem Cg {T:TypeId}{yd cs:List Value}{n m o q:Nat}{x:Operand}[a:Nc P T true yd n m] (b:Nj w q o cs) (c:cs.length=n) [e:oh fr x (.pointer (some ⟨q,o,none⟩))] [f:Aj fr d (.agg ⟨cs⟩) Ga] (h:Sf P ops Q rest Ga ds w):Sf P ops Q (⟨some d,.load T x,ty,pos,after,none⟩::rest) fr ds w:=wl (gp a e.out b c (ea f.out) h)
theorem Hb {dst:Option Tmp}{xs:List Operand}{tys:Array TypeId}{k:FuncId}{vs:List Value}{R:Value→World→Prop}[a:Wb P k] [b:Fw fr xs vs] (c:wc P k vs w R) (h:∀ v w',R v w'→Hh fr dst v fun Ga=>Sf P ops Q rest Ga ds w') :
  Sf P ops Q (⟨dst,.call { callee:=.value (.func k),args:=⟨xs⟩,argTypes:=tys },ty,pos,after,none⟩::rest) fr ds w:=wl (Qe a Ad b.out c h)
theorem Rd {id:Nat}{l:List Oper}{μ:M}{ca:World}{rs:List kb}(a:ha μ ca w rs) (h:∀ w',ha μ ca w' rs→lC P l.toArray Q (List.range l.length) fr ds w') (hm:P.follows .mixedOrders=true:=by kernel_rfl) (b:(List.range l.toArray.size).all (fun i=>(Pn l.toArray i).all fun j=>decide (j<i))=true:=by rfl):Ie P (.region id l.toArray true) Q fr ds w :=
 xm hm b fun w' c d e f=>h w' (a.drew c d e f)
theorem ja {v:Value}{K:List Value→Prop}[a:Aj fr d v Ga] (h:K Ga):Hh fr (some d) v K:=pu (ea a.out) h
theorem ra {zb:List Mon}{R R':List Nat}(i:Nat) (S:List Nat) (he:(decide R.Nodup && enabled ops R i && waits ops R S i && Wm ops S R i && S.contains i,R.erase i,ops[i]?)=(true,R',some ⟨some d,op,ty,pos,after,none⟩)) [a:vl P op fr v] [b:Aj fr d v Ga] (h:Df P ops Q zb R' Ga ds w) (c:Xk Q d:=by first | exact fun _ _ _ _ _ h=>h | exact Wc fun _ _ _ h=>h.2 | exact Wc fun _ _ _ h=>h.2.2):Df P ops Q zb R fr ds w :=
 Le i S he (a.out _ _ _ _ _) b.out h c
end
section
variable {rs rs':List kb}{oa a2 a3 a4 a5 Sb Jb Pb a9 Kd Gc a12 r:kb}
theorem Fc:Wg (oa::r::rs) 1 (r::oa::rs):=.s (Wg.z)
theorem Xd:Wg (oa::a2::r::rs) 2 (r::oa::a2::rs):=.s (.s (Wg.z))
theorem zf:Wg (oa::a2::a3::r::rs) 3 (r::oa::a2::a3::rs):=.s (.s (.s (Wg.z)))
theorem Ij:Wg (oa::a2::a3::a4::r::rs) 4 (r::oa::a2::a3::a4::rs):=.s (.s (.s (.s (Wg.z))))
theorem rO:Wg (oa::a2::a3::a4::a5::r::rs) 5 (r::oa::a2::a3::a4::a5::rs):=.s (.s (.s (.s (.s (Wg.z)))))
theorem Lq:Wg (oa::a2::a3::a4::a5::Sb::r::rs) 6 (r::oa::a2::a3::a4::a5::Sb::rs):=.s (.s (.s (.s (.s (.s (Wg.z))))))
theorem Dv:Wg (oa::a2::a3::a4::a5::Sb::Jb::r::rs) 7 (r::oa::a2::a3::a4::a5::Sb::Jb::rs):=.s (.s (.s (.s (.s (.s (.s (Wg.z)))))))
end
section
variable {P:Program}{Q:Exit→Act→World→Prop}{fr vi wi:List Value}{ds:List Deferred}{w:World}{ops:Array Oper}{l:List Oper}{R:List Nat}{zb:List Mon}{c:Operand}{x y:Code}{p:Prop}[Decidable p]{b:Bool}{d:Nat}{α:Type}{A B:Option α}{r:α}
theorem Bc (h:(if p then A else B)=some r) [a:oh fr c (.bool (decide p))] (b:p→A=some r→Ie P x Q fr ds w) (d:¬ p→B=some r→Ie P y Q fr ds w):Ie P (.cond c x y) Q fr ds w:=ui a.out (fun q=>b q (fl q h)) (fun q=>d q (ch q h))
theorem gg (h:(if b=true then A else B)=some r) [a:oh fr c (.bool b)] (d:b=true→A=some r→Ie P x Q fr ds w) (e:¬ b=true→B=some r→Ie P y Q fr ds w):Ie P (.cond c x y) Q fr ds w:=Sj a.out (fun q=>d q (fl q h)) (fun q=>e q (ch q h))
theorem hn (h:(if b=true then A else B)=some r) [a:oh fr c (.bool (!b))] (d:¬ b=true→B=some r→Ie P x Q fr ds w) (e:b=true→A=some r→Ie P y Q fr ds w):Ie P (.cond c x y) Q fr ds w:=vB a.out (fun q=>d q (ch q h)) (fun q=>e q (fl q h))
theorem Qf (d:Nat) (h:(if p then A else B)=some r) [ia:gn fr d (.bool (decide p))] [a:Aj fr d (.bool true) vi] [b:Aj fr d (.bool false) wi] (c:p→A=some r→Sf P ops Q l vi ds w) (e:¬ p→B=some r→Sf P ops Q l wi ds w):Sf P ops Q l fr ds w:=Uh ia.out a.out b.out (fun q=>c q (fl q h)) (fun q=>e q (ch q h))
theorem qz (d:Nat) (h:(if b=true then A else B)=some r) [ia:gn fr d (.bool b)] [a:Aj fr d (.bool true) vi] [c:Aj fr d (.bool false) wi] (e:b=true→A=some r→Sf P ops Q l vi ds w) (f:¬ b=true→B=some r→Sf P ops Q l wi ds w):Sf P ops Q l fr ds w:=GN ia.out a.out c.out (fun q=>e q (fl q h)) (fun q=>f q (ch q h))
theorem dC (d:Nat) (h:(if b=true then A else B)=some r) [ia:gn fr d (.bool (!b))] [a:Aj fr d (.bool true) vi] [c:Aj fr d (.bool false) wi] (e:¬ b=true→B=some r→Sf P ops Q l vi ds w) (f:b=true→A=some r→Sf P ops Q l wi ds w):Sf P ops Q l fr ds w:=VM ia.out a.out c.out (fun q=>e q (ch q h)) (fun q=>f q (fl q h))
theorem rz (d:Nat) (h:(if p then A else B)=some r) [ia:gn fr d (.bool (decide p))] [a:Aj fr d (.bool true) vi] [b:Aj fr d (.bool false) wi] (c:p→A=some r→Df P ops Q zb R vi ds w) (e:¬ p→B=some r→Df P ops Q zb R wi ds w):Df P ops Q zb R fr ds w:=JN ia.out a.out b.out (fun q=>c q (fl q h)) (fun q=>e q (ch q h))
theorem jO (d:Nat) (h:(if b=true then A else B)=some r) [ia:gn fr d (.bool b)] [a:Aj fr d (.bool true) vi] [c:Aj fr d (.bool false) wi] (e:b=true→A=some r→Df P ops Q zb R vi ds w) (f:¬ b=true→B=some r→Df P ops Q zb R wi ds w):Df P ops Q zb R fr ds w:=gG ia.out a.out c.out (fun q=>e q (fl q h)) (fun q=>f q (ch q h))
end
abbrev hf (l:List Value):List Value:=undef::l
abbrev Ib (l:List Value):List Value:=undef::undef::l
abbrev ve (l:List Value):List Value:=undef::undef::undef::undef::undef::l
abbrev Se (l:List Value):List Value:=undef::undef::undef::undef::undef::undef::undef::undef::undef::undef::l
abbrev Qc (l:List Value):List Value:=undef::undef::undef::undef::undef::undef::undef::undef::undef::undef::undef::undef::undef::undef::undef::undef::undef::undef::undef::undef::l
abbrev Kc (l:List Value):List Value:=undef::undef::undef::undef::undef::undef::undef::undef::undef::undef::undef::undef::undef::undef::undef::undef::undef::undef::undef::undef::undef::undef::undef::undef::undef::undef::undef::undef::undef::undef::undef::undef::undef::undef::undef::undef::undef::undef::undef::undef::undef::undef::undef::undef::undef::undef::undef::undef::undef::undef::l
end Go.ec
namespace Go.ec
open Go.Rb
abbrev fa (b o:Nat):Value:=.pointer (some ⟨b,o,none⟩)
section
variable {P:Program}{Q Q':Exit→Act→World→Prop}{fr Ga:List Value}{ds:List Deferred}{w:World}{ops:Array Oper}{x y z:Code}{id:Nat}{l:List Oper}{c:Operand}{p:Prop}[Decidable p]
theorem ug (h:¬ p) [a:oh fr c (.bool (decide p))] (k:Sf P l.toArray (Exit.then (Po P z Q') Q') l fr ds w):Sf P ops (Exit.then (Po P (.cond c x (.seq (.region id l.toArray false) z)) Q') Q) [] fr ds w:=ka (Kn a.out h (da k))
theorem Hf (h:p) [a:oh fr c (.bool (decide p))] (k:Ie P x Q' fr ds w):Sf P ops (Exit.then (Po P (.cond c x y) Q') Q) [] fr ds w:=ka (Cs a.out h k)
theorem ri (h:¬ p) [a:oh fr c (.bool (decide p))] (k:Ie P y Q' fr ds w):Sf P ops (Exit.then (Po P (.cond c x y) Q') Q) [] fr ds w:=ka (Kn a.out h k)
end
section
variable {P:Program}{ops:Array Oper}{Q:Exit→Act→World→Prop}{fr Ga:List Value}{ds:List Deferred}{w:World}
variable {zb:List Mon}{R R':List Nat}{dst d:Tmp}{op:Op}{ty:TypeId}{pos:String}{after:Array Edge}{v:Value}{T:TypeId}{yd cs:List Value}{n m o q:Nat}{x:Operand}{rest:List Oper}
theorem Za (i:Nat) (S:List Nat) (he:(decide R.Nodup && enabled ops R i && waits ops R S i && Wm ops S R i && S.contains i,R.erase i,ops[i]?)=(true,R',some ⟨some dst,.load T x,ty,pos,after,none⟩)) (a:w.cell? ⟨q,o,none⟩=some v) [b:Nc P T false yd n m] [c:oh fr x (.pointer (some ⟨q,o,none⟩))] [d:Aj fr dst v Ga] (h:Df P ops Q ((S,fun w'=>Qo P ⟨some dst,.load T x,ty,pos,after,none⟩ fr w' v)::zb) R' Ga ds w) (e:Xk Q dst:=by first | exact fun _ _ _ _ _ h=>h | exact Wc fun _ _ _ h=>h.2 | exact Wc fun _ _ _ h=>h.2.2):Df P ops Q zb R fr ds w:=Sc i S he (qb b c.out a) d.out h e
theorem qd {μ:M}{ca:World}{rs:List kb}(a:ha μ ca w rs) [c:oh fr x v] (h:∀ b w',w.heap.size≤b→ha μ ca w' (.ba b T cs::rs)→Hh fr dst (fa b 0) fun Ga=>Sf P ops Q rest Ga ds w') (d:v.cells=⟨cs⟩:=by rfl):Sf P ops Q (⟨some dst,.box T x,ty,pos,after,none⟩::rest) fr ds w:=wl (bq c.out d a h)
end
theorem kO {Li α:Type}{V:Li→Value}{r:Except Li α}{R:α→Value→World→Prop}{E:World→Prop}{w:World}{e:Li}(a:r=.error e) (h:E w):([]:List Deferred)=[]∧RB V r R E (.panicked [{ v:=V e,recovered:=false }]) w:=⟨rfl,e,a,rfl,h⟩
section
variable {Li α:Type}{P:Program}{V:Li→Value}{r:Except Li α}{R:α→Value→World→Prop}{E:World→Prop}{fr:List Value}{ds:List Deferred}{w:World}{dst:Option Tmp}{ty:TypeId}{pos:String}{after:Array Edge}{g:Option (Nat×Bool)}{K:List Value→List Deferred→World→Prop}{Q:Exit→Act→World→Prop}
instance {f:Nat}:oh fr (.func f) (.func (.func f) #[] #[]):=⟨Ad⟩
theorem kg {f:Operand}{xs:List Operand}{tys:Array TypeId}{k:FuncId}{cap vs:List Value}[c:Wb P k] [d:oh fr f (.func (.func k) #[] ⟨cap⟩)] [i:Fw fr xs vs]
  (j:xc P k (vs++cap) w V r R E) (h:∀ x v w',r=.ok x→R x v w'→Hh fr dst v fun Ga=>K Ga ds w') (he:∀ e w',r=.error e→E w'→Q (.panic [{ v:=V e,recovered:=false }]) (F fr ds) w':=by exact fun _ _ a b=>kO a b):Td P (Oper.mk dst (.call { callee:=.value f,args:=⟨xs⟩,argTypes:=tys }) ty pos after g) fr ds w K Q:=LA c d.out i.out j h he
end
section
variable {P:Program}{ops:Array Oper}{Q:Exit→Act→World→Prop}{fr:List Value}{ds:List Deferred}{w:World}
theorem Db {zb Ns':List Mon}{R:List Nat}{i:Nat}{R':List Nat}{o:Oper}(he:(My ops R,R.erase i,Ai i zb,ops[i]?,o.guard)=([i],R',Ns',some o,none)) (h:Td P o fr ds w (Xw P ops Q Ns' R') Q):Df P ops Q zb R fr ds w :=
 zj (congrArg (·.1) he) (congrArg (·.2.1) he) (congrArg (·.2.2.1) he) (congrArg (·.2.2.2.1) he) (Si (congrArg (·.2.2.2.2) he)) h
end
end Go.ec
namespace Go.ec
theorem rb {α : Type}{a b : α}(h : some a = some b) : a = b := Option.some.inj h
abbrev rg : Nat → Nat → List Nat := fun a b => List.range' a b
end Go.ec
