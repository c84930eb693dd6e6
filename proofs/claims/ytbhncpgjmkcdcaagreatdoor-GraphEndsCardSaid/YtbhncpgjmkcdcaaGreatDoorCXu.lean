/- Texts of Xu. -/
import Derived.Test.YtbhncpgjmkcdcaaGreatDoorCXt
import Derived.Laws.MakeOwn
import Derived.Laws.CopyRow
import Derived.Laws.IdiomCopy
import Derived.Shelf.Strconv.ParseIntPublic10
import Derived.Lib.IndexMore
import Derived.Sort.Row
import Derived.Lib.AppendStr
import Derived.Lib.ItoaNum
import Derived.Lib.UnsafeStr
set_option linter.unusedSimpArgs false
set_option linter.unusedVariables false
set_option linter.unusedSectionVars false
namespace Go.jc
open Go.Ab Go.RowKit
theorem na.split {α:Type}[Ja α]{μ:M}:∀ {l:List α}{cells:List Value}{i:Nat}{x:α},na μ cells l→l[i]?=some x →
  ∃ Rf cs ik,cells=Rf++(cs++ik)∧Rf.length=i*Ja.sz α∧Ja.cs μ cs x∧∀ (I:M) (a:List Value) (c:α),da μ I→Ja.cs I a c→na I (Rf++(a++ik)) (l.set i c)
 | [],cells,i,x,h,b=>by simp at b
 | y::l,cells,i,x,h,b=>by
  rw [na] at h;obtain ⟨cs,t,rfl,f,j⟩:=h;cases i with
  | zero =>
   simp at b;subst b;exact ⟨[],cs,t,rfl,by simp,f,fun I a c d g=>⟨a,t,rfl,g,j.up d⟩⟩
  | succ i =>
   simp at b;obtain ⟨Rf,Ms,ik,rfl,e,m,st⟩:=na.split j b;exact ⟨cs++Rf,Ms,ik,by simp,by simp [e,Ja.Hg f,Nat.add_mul];omega,m,fun I a c d g=>⟨cs,Rf++(a++ik),by simp,Ja.up d f,st I a c d g⟩⟩
theorem _root_.Go.Ab.Row.wh {α:Type}[Ja α]{w:World}{T:TypeId}{n:Nat}{μ:M}{v:Value}{cells:List Value}{l:List α}{i:Int}{x:α}(h:Row w v T (Ja.sz α) n cells) (d:na μ cells l) (y:l.length=n) (g:at_ l i=some x) :
  ∃ b o Rf cs ik,cells=Rf++(cs++ik)∧oj v (Ja.sz α) i b o∧(∀ w T a,Row w v T (Ja.sz α) n (Rf++(a++ik))→a.length=Ja.sz α→gj w b o a)∧Ja.cs μ cs x∧Rf.length=i.toNat*Ja.sz α ∧
   (∀ (I:M) (a:List Value) (f:α),da μ I→Ja.cs I a f→na I (Rf++(a++ik)) (l.set i.toNat f))∧na μ (Rf++(cs++ik)) l:=by
 obtain ⟨p,z,q⟩:=Bx g;obtain ⟨b,o,c,rfl,hc⟩:=h.Mn (by omega);obtain ⟨Rf,cs,ik,rfl,e,m,st⟩:=d.split q;refine ⟨b,o+i.toNat*Ja.sz α,Rf,cs,ik,rfl,⟨o,_,_,rfl,p,by omega,rfl⟩,?_,m,e,st,d⟩;intro A B a r C j u k;obtain ⟨qg,o',c',Wa,s⟩:=r.Mn (by omega);simp at Wa;obtain ⟨⟨rfl,rfl⟩,rfl⟩:=Wa;have t:j<a.length:=(List.getElem?_eq_some_iff.1 k).1;have:=s (Rf.length+j) u (by rw [List.getElem?_append_right (by omega),show Rf.length+j - Rf.length=j by omega,List.getElem?_append_left t];exact k);rw [e,← Nat.add_assoc] at this;exact this
theorem Gm {Rf cs a ik vs:List Value}{i off sz:Nat}(pl:Rf.length=i*sz) (h:cs.take off++vs++cs.drop (off+vs.length)=a) (b:off+vs.length≤cs.length) :
  (Rf++(cs++ik)).take (i*sz+off)++vs++(Rf++(cs++ik)).drop (i*sz+off+vs.length)=Rf++(a++ik):=by
 subst h;rw [← pl,Nat.add_assoc,List.take_append,List.drop_append];simp [List.take_append_of_le_length (show off≤cs.length by omega),List.drop_append_of_le_length b,List.take_of_length_le (show Rf.length≤Rf.length+off by omega),List.drop_of_length_le (show Rf.length≤Rf.length+(off+vs.length) by omega)]
section
variable {P:Program}{Q:Exit→Act→World→Prop}{K:List Value→List Deferred→World→Prop}{fr ua:List Value}{ds:List Deferred}{w:World}
variable {dst:Option Tmp}{ty:TypeId}{pos:String}{after:Array Edge}{g:Option (Nat×Bool)}
variable {w0:World}{rs rs':List mb}{μ I:M}
variable {T:TypeId}
theorem Wf.two {es:List MapEntry}{c:Nat}{k0 k1:List UInt8}{x0 x1:Int}(h:Wf μ es c [(k0,x0),(k1,x1)]) :
  ∃ de Ce,es=[⟨S k0,.int .i64 x0,de⟩,⟨S k1,.int .i64 x1,Ce⟩]∧de<Ce∧Ce<c:=by
 obtain ⟨e,j,l⟩:=h
 match es,e,j,l with
 | [],e,_,_=>simp [lg] at e
 | [a],e,_,_ =>
  rw [lg] at e;obtain ⟨k,x,t,g,-,-,f⟩:=e;simp [lg] at f g;simp [f] at g
 | [a,b],e,j,l =>
  rw [lg] at e;obtain ⟨k,x,t,g,m,n,f⟩:=e;rw [lg] at f;obtain ⟨u,v,Ob,o,p,q,r⟩:=f;subst o;simp only [List.cons.injEq,Prod.mk.injEq] at g;obtain ⟨⟨rfl,rfl⟩,⟨rfl,rfl⟩,-⟩:=g;obtain ⟨w,y,s⟩:=a;obtain ⟨z,bv,i⟩:=b;have n:y=.int .i64 x0:=n;have q:bv=.int .i64 x1:=q;have m:w=S k0:=m;have p:z=S k1:=p;subst m p n q;have A:s<i:=List.rel_of_pairwise_cons l (List.mem_singleton.2 rfl);have B:i<c:=j ⟨S k1,.int .i64 x1,i⟩ (by simp);exact ⟨s,i,rfl,A,B⟩
 | a::b::d::es,e,_,_ =>
  rw [lg] at e;obtain ⟨k,x,t,g,-,-,f⟩:=e;rw [lg] at f;obtain ⟨u,v,Ob,o,-,-,r⟩:=f;rw [lg] at r;obtain ⟨D,F,G,C,-,-,-⟩:=r;subst C o;simp at g
theorem sw (w:World) (b:Nat) (o:Obj) (a:b<w.heap.size):Fh (fun k=>k≠b) w { w with heap:=w.heap.setIfInBounds b o }∧({ w with heap:=w.heap.setIfInBounds b o }:World).heap[b]?=some o :=
 ⟨⟨rfl,rfl,rfl,by simp,fun j _ c=>by simp [Array.getElem?_setIfInBounds,Ne.symm c]⟩,by simp [a]⟩
theorem qI {x:Operand}{b m c f k de Ce:Nat}{a0 v0 pa v1:Value}(j:cb fr x (.pointer (some ⟨b,0,none⟩))) (d:ia μ w0 w rs) (Pa:Vb rs f (.bl b m c [] c)) (hm:Vb rs k (.map m [⟨a0,v0,de⟩,⟨pa,v1,Ce⟩] c)) (y:de<Ce) (l:Ce<c)
  (t:∀ w' rs',uc rs f (.bl b m c [de] c) rs'→ia μ w0 w' rs'→hh fr dst (.tuple ⟨[.bool true,a0,v0]⟩) fun ua=>K ua ds w')
  (u:∀ w' rs',uc rs f (.bl b m c [Ce] c) rs'→ia μ w0 w' rs'→hh fr dst (.tuple ⟨[.bool true,pa,v1]⟩) fun ua=>K ua ds w') :
  Kd P (Oper.mk dst (.next x false) ty pos after g) fr ds w K Q:=by
 have e:w.heap[b]?=some (.mapIter (some m) c ⟨[]⟩ c):=d.get Pa;have n:w.heap[m]?=some (.map ⟨[⟨a0,v0,de⟩,⟨pa,v1,Ce⟩]⟩ c):=d.get hm;have o:b<w.heap.size:=(Array.getElem?_eq_some_iff.1 e).1;have p:w.drew.heap[b]?=some (.mapIter (some m) c ⟨[]⟩ c):=e;have q:de<c:=by omega
 have r:¬ de ≥ c:=by omega
 have s:¬ Ce ≥ c:=by omega
 by_cases Qa:(w.tape w.drawn (.mapNext 2)) % 2=0
 ·obtain ⟨h,i⟩:=sw w.drew b (.mapIter (some m) c ⟨[de]⟩ c) o;obtain ⟨ua,a⟩:=Ji fr dst (.tuple ⟨[.bool true,a0,v0]⟩);refine Qh (w':={ w.drew with heap:=w.drew.heap.setIfInBounds b (.mapIter (some m) c ⟨[de]⟩ c) }) ?_ a (t _ _ rfl ((d.drew (w':=w.drew) rfl rfl rfl rfl).put (b:=b) Pa rfl rfl rfl i h) ua a);simp [execOp,j ds,Instr.next,getObj,setObj,Sem.run,e,n,Result.andThen,q,l,r,s,choose,Question.forced,Question.cut,Qa,p]
 ·have v:(w.tape w.drawn (.mapNext 2)) % 2=1:=by omega
  obtain ⟨h,i⟩:=sw w.drew b (.mapIter (some m) c ⟨[Ce]⟩ c) o;obtain ⟨ua,a⟩:=Ji fr dst (.tuple ⟨[.bool true,pa,v1]⟩);refine Qh (w':={ w.drew with heap:=w.drew.heap.setIfInBounds b (.mapIter (some m) c ⟨[Ce]⟩ c) }) ?_ a (u _ _ rfl ((d.drew (w':=w.drew) rfl rfl rfl rfl).put (b:=b) Pa rfl rfl rfl i h) ua a);simp [execOp,j ds,Instr.next,getObj,setObj,Sem.run,e,n,Result.andThen,q,l,r,s,choose,Question.forced,Question.cut,v,p]
theorem rI {x:Operand}{b m c d k de Ce:Nat}{a0 v0 pa v1:Value}(j:cb fr x (.pointer (some ⟨b,0,none⟩))) (a:ia μ w0 w rs) (Pa:Vb rs d (.bl b m c [de] c)) (hm:Vb rs k (.map m [⟨a0,v0,de⟩,⟨pa,v1,Ce⟩] c)) (z:de<Ce) (l:Ce<c)
  (n:∀ w' rs',uc rs d (.bl b m c [de,Ce] c) rs'→ia μ w0 w' rs'→hh fr dst (.tuple ⟨[.bool true,pa,v1]⟩) fun ua=>K ua ds w') :
  Kd P (Oper.mk dst (.next x false) ty pos after g) fr ds w K Q:=by
 have e:w.heap[b]?=some (.mapIter (some m) c ⟨[de]⟩ c):=a.get Pa;have o:w.heap[m]?=some (.map ⟨[⟨a0,v0,de⟩,⟨pa,v1,Ce⟩]⟩ c):=a.get hm;have p:b<w.heap.size:=(Array.getElem?_eq_some_iff.1 e).1;have q:¬ de ≥ c:=by omega
 have r:¬ Ce ≥ c:=by omega
 have s:¬ ∀ (i:Nat) (x:i<2),c≤([⟨a0,v0,de⟩,⟨pa,v1,Ce⟩]:List MapEntry)[i].born:=fun h=>by have:=h 0 (by decide);simp at this;omega
 have t:¬ Ce=de:=by omega
 have u:¬ de=Ce:=by omega
 obtain ⟨v,y⟩:=sw w b (.mapIter (some m) c ⟨[de,Ce]⟩ c) p;obtain ⟨ua,f⟩:=Ji fr dst (.tuple ⟨[.bool true,pa,v1]⟩);refine Qh (w':={ w with heap:=w.heap.setIfInBounds b (.mapIter (some m) c ⟨[de,Ce]⟩ c) }) ?_ f (n _ _ rfl (a.put (b:=b) Pa rfl rfl rfl y v) ua f);simp [execOp,j ds,Instr.next,getObj,setObj,Sem.run,e,o,Result.andThen,l,q,r,t,u,s,choose,Question.forced]
theorem VG {x:Operand}{b m c d k de Ce:Nat}{a0 v0 pa v1:Value}(j:cb fr x (.pointer (some ⟨b,0,none⟩))) (a:ia μ w0 w rs) (Pa:Vb rs d (.bl b m c [Ce] c)) (hm:Vb rs k (.map m [⟨a0,v0,de⟩,⟨pa,v1,Ce⟩] c)) (z:de<Ce) (A:Ce<c)
  (l:∀ w' rs',uc rs d (.bl b m c [Ce,de] c) rs'→ia μ w0 w' rs'→hh fr dst (.tuple ⟨[.bool true,a0,v0]⟩) fun ua=>K ua ds w') :
  Kd P (Oper.mk dst (.next x false) ty pos after g) fr ds w K Q:=by
 have e:w.heap[b]?=some (.mapIter (some m) c ⟨[Ce]⟩ c):=a.get Pa;have n:w.heap[m]?=some (.map ⟨[⟨a0,v0,de⟩,⟨pa,v1,Ce⟩]⟩ c):=a.get hm;have o:b<w.heap.size:=(Array.getElem?_eq_some_iff.1 e).1;have p:de<c:=by omega
 have q:¬ de ≥ c:=by omega
 have r:¬ Ce ≥ c:=by omega
 have s:¬ ∀ (i:Nat) (x:i<2),c≤([⟨a0,v0,de⟩,⟨pa,v1,Ce⟩]:List MapEntry)[i].born:=fun h=>by have:=h 0 (by decide);simp at this;omega
 have t:¬ Ce=de:=by omega
 have u:¬ de=Ce:=by omega
 obtain ⟨v,y⟩:=sw w b (.mapIter (some m) c ⟨[Ce,de]⟩ c) o;obtain ⟨ua,f⟩:=Ji fr dst (.tuple ⟨[.bool true,a0,v0]⟩);refine Qh (w':={ w with heap:=w.heap.setIfInBounds b (.mapIter (some m) c ⟨[Ce,de]⟩ c) }) ?_ f (l _ _ rfl (a.put (b:=b) Pa rfl rfl rfl y v) ua f);simp [execOp,j ds,Instr.next,getObj,setObj,Sem.run,e,n,Result.andThen,p,q,r,t,u,s,choose,Question.forced]
theorem JC {x:Operand}{b m c d k de Ce p q:Nat}{a0 v0 pa v1:Value}(e:cb fr x (.pointer (some ⟨b,0,none⟩))) (a:ia μ w0 w rs) (Pa:Vb rs d (.bl b m c [p,q] c)) (hm:Vb rs k (.map m [⟨a0,v0,de⟩,⟨pa,v1,Ce⟩] c)) (u:de<Ce) (v:Ce<c) (f:p=de∧q=Ce∨p=Ce∧q=de)
  (Qa:Te fr dst (.tuple ⟨[.bool false]⟩) ua) (h:K ua ds w) :
  Kd P (Oper.mk dst (.next x false) ty pos after g) fr ds w K Q:=by
 have j:w.heap[b]?=some (.mapIter (some m) c ⟨[p,q]⟩ c):=a.get Pa;have l:w.heap[m]?=some (.map ⟨[⟨a0,v0,de⟩,⟨pa,v1,Ce⟩]⟩ c):=a.get hm;have n:¬ de ≥ c:=by omega
 have o:¬ Ce ≥ c:=by omega
 have r:¬ ∀ (i:Nat) (x:i<2),c≤([⟨a0,v0,de⟩,⟨pa,v1,Ce⟩]:List MapEntry)[i].born:=fun h=>by have:=h 0 (by decide);simp at this;omega
 have s:¬ Ce=de:=by omega
 have t:¬ de=Ce:=by omega
 refine Qh (w':=w) ?_ Qa h;rcases f with ⟨rfl,rfl⟩ | ⟨rfl,rfl⟩<;>simp [execOp,e ds,Instr.next,getObj,setObj,Sem.run,j,l,Result.andThen,n,o,s,t,r,choose,Question.forced]
theorem Uw {x:Operand}{b m c d k de Ce:Nat}{a0 v0 pa v1:Value}{seen:List Nat}{e:MapEntry}(f:cb fr x (.pointer (some ⟨b,0,none⟩))) (a:ia μ w0 w rs) (Pa:Vb rs d (.bl b m c seen c)) (hm:Vb rs k (.map m [⟨a0,v0,de⟩,⟨pa,v1,Ce⟩] c)) (p:de<Ce)
  (hs:seen.getLast?=some e.born) (he:e=⟨a0,v0,de⟩∨e=⟨pa,v1,Ce⟩) (Qa:Te fr dst (.tuple ⟨[e.key,e.val]⟩) ua) (h:K ua ds w) :
  Kd P (Oper.mk dst (.entry x) ty pos after g) fr ds w K Q:=by
 have i:w.heap[b]?=some (.mapIter (some m) c ⟨seen⟩ c):=a.get Pa;have j:w.heap[m]?=some (.map ⟨[⟨a0,v0,de⟩,⟨pa,v1,Ce⟩]⟩ c):=a.get hm;have l:¬ Ce=de:=by omega
 have n:¬ de=Ce:=by omega
 have o:(⟨seen⟩:Array Nat).back?=some e.born:=by rw [← hs];simp [Array.back?,List.getLast?_eq_getElem?]
 refine Qh (w':=w) ?_ Qa h;rcases he with rfl | rfl<;>simp [execOp,f ds,Instr.entry,getObj,Sem.run,i,j,Result.andThen,o,l,n]
end
end Go.jc
namespace Go.jc
open Go.Ab Go.RowKit
section
variable {P:Program}{Q:Exit→Act→World→Prop}{K:List Value→List Deferred→World→Prop}{fr ua:List Value}{ds:List Deferred}{w:World}
variable {dst:Option Tmp}{ty:TypeId}{pos:String}{after:Array Edge}{g:Option (Nat×Bool)}
structure KC (P:Program) (f:FuncId) (args:List Value) (w:World) (R:Value→World→Prop):Prop where
 out:CallsD P f ⟨args⟩ .returning w fun e a w'=>a=.returning∧okV R e w'
theorem HL {fn:Func}{R a:Value→World→Prop}{k:FuncId}{cap vs:List Value}(b:Hb P k) (hc:KC P k (vs++cap) w a) (h:∀ v w',a v w'→ns P fn R .ret (F fr ds) w') :
  ns P fn R .ret (F fr (⟨.fn (.func k) ⟨cap⟩,⟨vs⟩⟩::ds)) w:=by
 refine ⟨by simp,.func k,⟨cap⟩,k,⟨vs++cap⟩,rfl,?_,?_⟩
 ·have:=b.out ⟨vs++cap⟩ w;simp [invoke,this]
 ·refine hc.out.mono fun e d w' he=>?_;obtain ⟨rfl,he⟩:=he;cases e with
  | returned v=>exact h v w' he
  | panicked c=>exact he.elim
  | outgrown=>exact he.elim
theorem ZJ {P:Program}{T:TypeId}{ms:Array (String×TypeId)}{v:Value}{b:Bool}(hu:P.underlying T=some (.interface ms)) (Wa:(v=.nilIface∧b=true)∨((∃ a c,v=.iface a c)∧b=false)):Tn P 1 T v .nilIface b:=⟨fun d w Qa=>by
 cases d with
 | zero=>omega
 | succ d=>rcases Wa with ⟨rfl,rfl⟩ | ⟨⟨a,c,rfl⟩,rfl⟩ <;> simp [Op.equalIn,run_underlying hu]⟩
theorem aK {x:Operand}{t Ob:TypeId}{v:Value}{b:Bool}{ms:Array (String×TypeId)}(hu:P.underlying t=some (.interface ms)) (d:cb fr x v) (Wa:(v=.nilIface∧b=true)∨((∃ a c,v=.iface a c)∧b=false)) (e:Te fr dst (.bool b) ua) (k:K ua ds w) :
  Kd P (Oper.mk dst (.binOp .eql t x (.const .nilIface) Ob) ty pos after g) fr ds w K Q:=by
 refine ta ⟨fun ds w=>?_⟩ e k;have f:=d ds;have h:(F fr ds).eval (.const .nilIface)=.nilIface:=rfl;have i:=(ZJ hu Wa).out Op.maxDepth w (by decide);rcases Wa with ⟨rfl,rfl⟩ | ⟨⟨a,c,rfl⟩,rfl⟩<;>simp [execOp,f,h,eqGuard,binOp,Op.equal,i]
end
end Go.jc
namespace Go.jc
open Go.Ab Go.RowKit
def TM (agg:Bool) (cs:List Value):Value:=if agg then .agg ⟨cs⟩ else cs.headD undef
structure vm (P:Program) (E:M) (K:Nat) (e:List Value){α:Type}[Ja α] (agg:Bool) (f:α→Option Bool):Prop where
 Gs:Hb P K
 call:∀ {a:M}{w0 c:World}{rs:List mb}{x:α}{b:Bool}{cs:List Value},da E a→Ja.cs a cs x→f x=some b→ia a w0 c rs→tb P K ([TM agg cs]++e) c (fun v w'=>∃ d,v=.bool b∧da a d∧ia d w0 w' rs)
theorem vm.up {P:Program}{μ I:M}{K:Nat}{a:List Value}{α:Type}[Ja α]{agg:Bool}{b:α→Option Bool}(h:vm P μ K a agg b) (l:da μ I):vm P I K a agg b:=⟨h.Gs,fun c=>h.call (l.t c)⟩
end Go.jc
namespace Go.jc
open Go.Ab Go.RowKit
section
variable {P : Program}{Q : Exit → Act → World → Prop}{K : List Value → List Deferred → World → Prop}{fr ua : List Value}{ds : List Deferred}{w w' : World}
variable {dst : Option Tmp}{ty : TypeId}{pos : String}{after : Array Edge}{g : Option (Nat × Bool)}
variable {w0 : World}{rs rs' : List mb}{μ I : M}
variable {T : TypeId}{d : TypeDesc}{Hf : Bool}{xd : List Value}{n m : Nat}
theorem _root_.Go.Ab.Sep.newRow {S Ed : Nat → Prop}{A : World → Prop}{v : Value}{sz k : Nat}{xs : List Value}(a : Sep S Ed w0 w rs A) (c : Grow w w') (f : Row w' v T sz k xs) (d : ∀ b, v.ownBlock = some b → w.heap.size ≤ b) :
    Sep S Ed w0 w' (.row v T sz k xs :: rs) A where
  keeps := a.keeps.trans c.keeps
  all r g := by
    rcases List.mem_cons.1 g with rfl | h
    · exact f
    · exact (a.grow c).all r h
  qi := by
    cases Wa : v.ownBlock with
    | none => simp only [blocks, List.filterMap_cons, mb.block, Wa]; exact a.qi
    | some b =>
      simp only [blocks, List.filterMap_cons, mb.block, Wa, List.nodup_cons];exact ⟨fun hm => by have := a.lt hm;have := d b Wa;omega, a.qi⟩
  new b hm := by
    cases Wa : v.ownBlock with
    | none => simp only [blocks, List.filterMap_cons, mb.block, Wa] at hm; exact a.new b hm
    | some qg =>
      simp only [blocks, List.filterMap_cons, mb.block, Wa, List.mem_cons] at hm;rcases hm with rfl | hm
      · exact .inl (Nat.le_trans a.keeps.size (d _ Wa))
      · exact a.new b hm
  Li := fun i j l => a.Li i (Nat.le_trans c.size j) fun k e hs => (l k (Nat.lt_of_lt_of_le e c.size) ⟨hs.1, fun hm => by
    cases Wa : v.ownBlock with
    | none => simp only [blocks, List.filterMap_cons, mb.block, Wa] at hm; exact hs.2 hm
    | some qg =>
      simp only [blocks, List.filterMap_cons, mb.block, Wa, List.mem_cons] at hm;rcases hm with rfl | hm
      · have := d _ Wa;omega
      · exact hs.2 hm⟩).trans (c.ba k e trivial)
theorem wy {e : TypeId}{sz k base : Nat}{v : Value}{xs : List Value}(h : w.ownsRow base e sz v k xs) : Row w v e sz k xs ∧ ∀ b, v.ownBlock = some b → base ≤ b := by
  obtain ⟨a, d⟩ := h;rcases d with ⟨rfl, rfl⟩ | ⟨g, cap, cur, rfl, c, f, i, j, n, l⟩
  · exact ⟨⟨a, .inl ⟨rfl, rfl⟩⟩, fun b c => by simp [Value.ownBlock] at c⟩
  · exact ⟨⟨a, .inr ⟨g, 0, cap, cur, rfl, f, i, j, by omega, by simpa using l⟩⟩, fun b m => by simp [Value.ownBlock] at m;omega⟩
def cl (n : Int) : Option Nat := if 0 ≤ n ∧ n ≤ 65536 then some n.toNat else none
theorem bK {n : Int}{k : Nat}(h : cl n = some k) : n = k ∧ k ≤ 65536 := by
  unfold cl at h;split at h
  · rename_i hc;have := Option.some.inj h;omega
  · cases h
theorem WG (z : Value) (k : Nat) : madeCells #[z] k = (List.replicate k z).toArray := by
  apply Array.ext';simp only [madeCells, Array.toList_map, Array.toList_range];apply List.ext_getElem?;intro i;simp only [List.getElem?_map, List.getElem?_range', List.getElem?_replicate];by_cases h : i < k
  · simp [h, Nat.mod_one]
  · simp [h]
theorem Vv {x y : Operand}{e : TypeId}{z : Value}{bytes k : Nat}{c d : IntKind}{n : Int}(f : P.underlying T = some (.slice e)) (j : qc P e Hf [z] 1 bytes) (v : bytes ≤ 4096) (l : cb fr x (.int c n)) (m : cb fr y (.int d n)) (o : cl n = some k) (p : ia μ w0 w rs)
    (h : ∀ b w', ia μ w0 w' (.row (.slice (some ⟨b, 0, none⟩) k k) e 1 k (List.replicate k z):: rs) → hh fr dst (.slice (some ⟨b, 0, none⟩) k k) fun ua => K ua ds w') :
    Kd P (Oper.mk dst (.makeSlice T x y) ty pos after g) fr ds w K Q := by
  obtain ⟨rfl, q⟩ := bK o;obtain ⟨i, r, Pa, s, t, u, A⟩ := j.inf;have hm : i.bytes * k ≤ 4096 * 65536 := Nat.mul_le_mul (by omega) q;have a := run_make (P := P) w T e i r f Pa s c d k k (by omega) (Int.le_refl _) (by rw [← Int.natCast_mul];omega) (by omega);simp only [Int.toNat_natCast, u, Nat.mul_one, t] at a;rw [WG] at a;obtain ⟨ua, Qa⟩ := Ji fr dst (.slice (some ⟨w.heap.size, 0, none⟩) k k);refine Qh (w' := w.alloc (.cells (List.replicate k z).toArray e)) ?_ Qa (h _ _ (p.alloc rfl ⟨by simp, .inr ⟨_, 0, _, _, rfl, heap_alloc_new w _, Nat.le_refl _, by simp only [maxLen];omega, by simp, by simp⟩⟩) ua Qa);simp only [execOp, l ds, m ds, Sem.run_bind, a, Result.andThen_ok, Sem.run_pure]
theorem tu {α : Type}[Ja α]{z : Value}{x : α}(h : ∀ μ : M, Ja.cs μ [z] x) : ∀ k, na μ (List.replicate k z) (List.replicate k x)
  | 0 => rfl
  | k + 1 => ⟨[z], _, rfl, h μ, tu h k⟩
theorem IL {t e : TypeId}{v : Value}{a : Option Addr}{k c : Nat}(hu : P.underlying t = some (.slice e)) : Tn P 1 t (.slice a k c) (.slice none 0 0) a.isNone := ⟨fun d w Qa => by
  cases d with
  | zero => omega
  | succ d => cases a <;> simp [Op.equalIn, run_underlying hu]⟩
theorem sI {x : Operand}{t Ob e : TypeId}{a : Option Addr}{k c : Nat}(hu : P.underlying t = some (.slice e)) (b : cb fr x (.slice a k c)) (d : Te fr dst (.bool a.isNone) ua) (h : K ua ds w) :
    Kd P (Oper.mk dst (.binOp .eql t x (.const (.slice none 0 0)) Ob) ty pos after g) fr ds w K Q := by
  refine ta ⟨fun ds w => ?_⟩ d h;have f := b ds;have i : (F fr ds).eval (.const (.slice none 0 0)) = .slice none 0 0 := rfl;have j := (IL (v := .nilIface) (a := a) (k := k) (c := c) hu).out Op.maxDepth w (by decide);simp [execOp, f, i, eqGuard, binOp, Op.equal, j]
def small {α : Type}(l : List α) : Option Unit := if l.length ≤ 65536 then some () else none
theorem tw {α : Type}{l : List α}{u : Unit}(h : small l = some u) : l.length ≤ 65536 := by
  unfold small at h;split at h
  · assumption
  · cases h
theorem na.lA {α : Type}[Ja α] : ∀ {l : List α}{cells : List Value}(i : Nat), na μ cells l → na μ (cells.take (i * Ja.sz α)) (l.take i)
  | [], cells, i, h => by rw [na] at h; subst h; simp [na]
  | x :: l, cells, 0, h => by simp [na]
  | x :: l, cells, i + 1, h => by
    rw [na] at h;obtain ⟨cs, t, rfl, a, b⟩ := h;rw [List.take_succ_cons, na];refine ⟨cs, t.take (i * Ja.sz α), ?_, a, na.lA i b⟩;have e : (i + 1) * Ja.sz α = cs.length + i * Ja.sz α := by rw [Nat.add_mul, Ja.Hg a];omega
    rw [e, List.take_append];simp [List.take_of_length_le (show cs.length ≤ cs.length + i * Ja.sz α by omega)]
theorem Row.jE {α : Type}[Ja α]{v : Value}{cells : List Value}{l b : List α}{j : Int}(h : Row w v T (Ja.sz α) l.length cells) (hm : na μ cells l) (g : cut l 0 j = some b) :
    ∃ a c, qq v (Ja.sz α) none (some j) a ∧ a.ownBlock = v.ownBlock ∧ (∀ w T, Row w v T (Ja.sz α) l.length cells → Row w a T (Ja.sz α) b.length c) ∧ na μ c b := by
  obtain ⟨⟨n, d, e⟩, rfl⟩ := Qr g;obtain ⟨a, ra, f, i⟩ := Row.OD h d e;refine ⟨a, cells.take (j.toNat * Ja.sz α), ra, f, fun w T k => ?_, by simpa using hm.lA j.toNat⟩;have := i w T k;have m : ((l.take j.toNat).drop (0 : Int).toNat).length = j.toNat := by simp;omega
  rw [m];exact this
theorem tI {recv : Operand}{xs : List Operand}{tys : Array TypeId}{name : String}{k : FuncId}{t : TypeId}{a : Value}{vs : List Value}(hm : ∀ w, (method (P.types.size + Made.depth) t a name).run P w = .ok (k, a) w) (b : Hb P k) (c : cb fr recv (.iface t a)) (hs : xl fr xs vs) :
    (execOp (F fr ds).eval (Oper.mk dst (.call { callee := .invoke recv name, args := ⟨xs⟩, argTypes := tys }) ty pos after g)).run P w = .ok (.enter k ⟨a :: vs⟩) w := by
  have d := c ds;have e := hs ds;have f := b.out ⟨a :: vs⟩ w;have h := hm w;simp [execOp, resolve, d, invoke, callMethod, e, f, h]
theorem Vw {recv : Operand}{xs : List Operand}{tys : Array TypeId}{name : String}{k : FuncId}{t : TypeId}{a : Value}{vs : List Value}{R : Value → World → Prop}(hm : ∀ w, (method (P.types.size + Made.depth) t a name).run P w = .ok (k, a) w) (b : Hb P k) (c : cb fr recv (.iface t a)) (hs : xl fr xs vs)
    (hc : tb P k (a :: vs) w R) (h : ∀ v w', R v w' → hh fr dst v fun ua => K ua ds w') : Kd P (Oper.mk dst (.call { callee := .invoke recv name, args := ⟨xs⟩, argTypes := tys }) ty pos after g) fr ds w K Q :=
  Ow (args := a :: vs) (tI hm b c hs) hc h
end
end Go.jc
namespace Go.jc
open Go.Ab Go.RowKit
section
variable {P:Program}{Q:Exit→Act→World→Prop}{K:List Value→List Deferred→World→Prop}{fr ua:List Value}{ds:List Deferred}{w w':World}
variable {dst:Option Tmp}{ty:TypeId}{pos:String}{after:Array Edge}{g:Option (Nat×Bool)}
variable {w0:World}{rs rs':List mb}{μ I:M}
variable {T:TypeId}{d:TypeDesc}{Hf:Bool}{xd:List Value}{n m:Nat}
def an (a b:Int):Option Int:=if b=0 then none else some (a.tmod b)
theorem Ho {a b c:Int}(h:an a b=some c):b≠0∧a.tmod b=c:=by
 unfold an at h;split at h
 ·cases h
 ·rename_i d;exact ⟨d,Option.some.inj h⟩
theorem oj.uniq {v:Value}{sz:Nat}{i:Int}{b o qg o':Nat}(h:oj v sz i b o) (a:oj v sz i qg o'):b=qg∧o=o':=by
 obtain ⟨d,n,c,rfl,_,_,rfl⟩:=h.out;obtain ⟨e,Ce,c1,he,_,_,rfl⟩:=a.out;cases he;exact ⟨rfl,rfl⟩
theorem nC {α:Type}{w:World}{v:Value}{T sz i:Nat}{x:α}{l:List α}{cs:List Value}(h:Row w v T sz (l.set i x).length cs):Row w v T sz l.length cs:=by
 rwa [List.length_set] at h
theorem XG {α:Type}{l:List α}{k:Nat}{x:α}(h:l[k]?=some x):l.set k x=l:=by
 apply List.ext_getElem?;intro i;rw [List.getElem?_set];split
 ·rename_i e;subst e;rw [if_pos (List.getElem?_eq_some_iff.1 h).1,h]
 ·rfl
def sq {α:Type}(l ys:List α):List α:=ys.take l.length++l.drop ys.length
theorem uI {α:Type}(l ys:List α):(sq l ys).length=l.length:=by simp [sq];omega
theorem cK {α:Type}[Ja α] (c:Ja.sz α=1){l ys:List α}{cells news:List Value}(h:na μ cells l) (k:na μ news ys):na μ (news.take l.length++cells.drop ys.length) (sq l ys):=by
 have a:=k.lA l.length;have b:=h.drop ys.length;rw [c,Nat.mul_one] at a b;exact na.cat b a
theorem dK {α:Type}[Ja α]{t Ob:TypeId}{x y:Operand}{v:Value}{bytes k c:Nat}{a:Option Addr}{cells news:List Value}{l ys:List α}(A:Ja.sz α=1) (L:P.underlying t=some (.slice T)) (R:qc P T Hf xd 1 bytes)
  (S:cb fr x v) (U:cb fr y (.slice a ys.length c)) (m:ia μ w0 w rs) (B:Vb rs k (.row v T 1 l.length cells)) (p:na μ cells l) (hm:na μ news ys) (W:ys≠[]→∃ b o,a=some ⟨b,o,none⟩∧Hc μ b o news)
  (h:∀ n w' rs',uc rs k (.row v T 1 l.length (news.take l.length++cells.drop ys.length)) rs'→ia μ w0 w' rs'→hh fr dst (.int .i64 n) fun ua=>K ua ds w') :
  Kd P (Oper.mk dst (.call { callee:=.builtin .copy,args:=#[x,y],argTypes:=#[t,Ob] }) ty pos after g) fr ds w K Q:=by
 have M:Row w v T 1 l.length cells:=m.get B;have q:news.length=ys.length:=by have:=hm.len;rw [A] at this;omega
 have N:(P.info? T).map (·.size)=some 1:=by
  obtain ⟨i,z,Pa,-,-,X,-⟩:=R.inf;rw [Pa];simp [X]
 have run:∀ {r:Int}{w'},(Builtin.copy_ #[t,Ob] ty #[v,.slice a ys.length c]).run P w=.ok (.int .i64 r) w' →
   (execOp (F fr ds).eval (Oper.mk dst (.call { callee:=.builtin .copy,args:=#[x,y],argTypes:=#[t,Ob] }) ty pos after g)).run P w=.ok (.value (.int .i64 r)) w':=fun p=>by
  have Y:=S ds;have Z:=U ds;simp [execOp,resolve,invoke,builtin,Y,Z,p]
 by_cases d:ys.length=0∨l.length=0
 ·obtain ⟨ua,Qa⟩:=Ji fr dst (.int .i64 (0:Nat));have gc:Nat.min ys.length l.length=0:=by rcases d with d | d<;>simp [d,Nat.min_def]<;>omega
  have lc:news.take l.length++cells.drop ys.length=cells:=by
   have hc:=p.len;rw [A] at hc;rcases d with d | d
   ·rw [d] at q ⊢;simp [List.eq_nil_of_length_eq_zero q]
   ·simp [d,List.eq_nil_of_length_eq_zero (show cells.length=0 by omega)]
  obtain ⟨C,D,G,rfl,rc⟩:∃ C D G,v=.slice C D G∧D=l.length:=by
   rcases M.2 with ⟨rfl,H⟩ | ⟨g,o,cap,cur,rfl,-⟩
   ·exact ⟨none,0,0,rfl,H.symm⟩
   ·exact ⟨_,_,_,rfl,rfl⟩
  subst rc;refine Qh (w':=w) (run (r:=((0:Nat):Int)) ?_) Qa (h _ w rs ?_ m ua Qa)
  ·have:=run_copy_none (P:=P) w t Ob ty T C a l.length G ys.length c L N gc;simpa [goInt] using this
  ·rw [lc];unfold uc Vb at *;exact XG B
 ·have fd:ys≠[]:=fun e=>d (.inl (by simp [e]));obtain ⟨Ke,Rd,rfl,id⟩:=W fd;have md:=p.len;rw [A,Nat.mul_one] at md;rcases M.2 with ⟨rfl,H⟩ | ⟨f,o,cap,cur,rfl,O,rd,td,ce,wd⟩
  ·exact absurd (.inr H) d
  ·obtain ⟨ua,Qa⟩:=Ji fr dst (.int .i64 ((news.take l.length).length:Nat));have ge:(news.take l.length).length≤l.length:=by simp;omega
   have Fd:oi w f T cur.toList:=O;have Id:=hm.wg;have be:=run_copy_row (P:=P) w t Ob ty T f o l.length cap ⟨Ke,Rd,none⟩ ys.length c cur T (news.take l.length) L N O (by simp [q,Nat.min_comm]) (fun j u s=>by
    rw [List.getElem?_take] at s;split at s
    ·have:=id w m.a j u s;rwa [Oj]
    ·cases s) (by omega) (fun u hu=>ow (List.all_eq_true.1 Id u (List.mem_of_mem_take hu)))
   have key:Fh (fun k=>k≠f) w (w.setRow f (cur.toList.take o++news.take l.length++cur.toList.drop (o+(news.take l.length).length)).toArray):=⟨rfl,rfl,rfl,by simp [World.setRow],fun k he hs=>setRow_other w f k _ hs⟩;refine Qh (w':=w.setRow f (cur.toList.take o++news.take l.length++cur.toList.drop (o+(news.take l.length).length)).toArray) (run (r:=((news.take l.length).length:Nat)) (by rw [be];rfl)) Qa (h _ _ _ rfl (m.put (b:=f) B rfl rfl rfl ?_ key) ua Qa);refine ⟨by simp;omega,.inr ⟨f,o,cap,_,rfl,setRow_heap w f ⟨cur.toList⟩ _ T (0,0) Fd,rd,td,?_,?_⟩⟩
   ·simp;omega
   ·have:=nB cur.toList (news.take l.length) o 0 (l.length*1) (by omega) (by simp;omega);simp only [Nat.add_zero,List.take_zero,List.nil_append,Nat.zero_add] at this;rw [List.toList_toArray,this,wd];congr 1;by_cases hle:ys.length≤l.length
    ·simp [q,Nat.min_eq_right hle]
    ·rw [List.drop_eq_nil_of_le (by simp;omega),List.drop_eq_nil_of_le (by omega)]
theorem eK {x y:Operand}{t Ob:TypeId}{d:TypeDesc}{a b:Int}(hu:P.underlying t=some d) (c:cb fr x (.int .i64 a)) (f:cb fr y (.int .i64 b)):Qe P (Oper.mk dst (.call { callee:=.builtin .min,args:=#[x,y],argTypes:=#[t,Ob] }) ty pos after g) fr (.int .i64 (min a b)):=⟨fun ds w=>by
 have i:=c ds;have j:=f ds;have e:min a b=if b<a then b else a:=by simp only [Int.min_def];split<;>split<;>omega
 rw [e];by_cases h:b<a<;>simp [execOp,resolve,invoke,builtin,i,j,Builtin.min_,Builtin.min2,h]⟩
theorem fK {x y:Operand}{t Ob:TypeId}{d:TypeDesc}{a b:Int}(hu:P.underlying t=some d) (c:cb fr x (.int .i64 a)) (f:cb fr y (.int .i64 b)):Qe P (Oper.mk dst (.call { callee:=.builtin .max,args:=#[x,y],argTypes:=#[t,Ob] }) ty pos after g) fr (.int .i64 (max a b)):=⟨fun ds w=>by
 have i:=c ds;have j:=f ds;have e:max a b=if a<b then b else a:=by simp only [Int.max_def];split<;>split<;>omega
 rw [e];by_cases h:a<b<;>simp [execOp,resolve,invoke,builtin,i,j,Builtin.max_,Builtin.max2,h]⟩
theorem JL {t:TypeId}{kd rs:Array TypeId}{a:Bool}(hu:P.underlying t=some (.func kd rs a)):Tn P 1 t .nilFunc .nilFunc true:=⟨fun d w Qa=>by
 cases d with
 | zero=>omega
 | succ d=>simp [Op.equalIn,run_underlying hu]⟩
theorem KL {t e:TypeId}(hu:P.underlying t=some (.pointer e)):Tn P 1 t (.pointer none) (.pointer none) true:=⟨fun d w Qa=>by
 cases d with
 | zero=>omega
 | succ d=>simp [Op.equalIn,run_underlying hu]⟩
theorem hG {x:Operand}{t Ob:TypeId}{kd rs:Array TypeId}{a:Bool}(hu:P.underlying t=some (.func kd rs a)) (b:cb fr x .nilFunc):Qe P (Oper.mk dst (.binOp .neq t x (.const .nilFunc) Ob) ty pos after g) fr (.bool false):=⟨fun ds w=>by
 have c:=b ds;have d:(F fr ds).eval (.const .nilFunc)=.nilFunc:=rfl;have e:=(JL hu).out Op.maxDepth w (by decide);simp [execOp,c,d,eqGuard,binOp,Op.equal,e]⟩
theorem iG {x:Operand}{t Ob e:TypeId}(hu:P.underlying t=some (.pointer e)) (a:cb fr x (.pointer none)):Qe P (Oper.mk dst (.binOp .eql t x (.const (.pointer none)) Ob) ty pos after g) fr (.bool true):=⟨fun ds w=>by
 have b:=a ds;have c:(F fr ds).eval (.const (.pointer none))=.pointer none:=rfl;have d:=(KL hu).out Op.maxDepth w (by decide);simp [execOp,b,c,eqGuard,binOp,Op.equal,d]⟩
theorem jG {x:Operand}{t Ob e:TypeId}(hu:P.underlying t=some (.pointer e)) (a:cb fr x (.pointer none)) (b:Te fr dst (.bool true) ua) (h:K ua ds w):Kd P (Oper.mk dst (.binOp .eql t x (.const (.pointer none)) Ob) ty pos after g) fr ds w K Q:=ta (iG hu a) b h
end
end Go.jc
namespace Go.jc
open Go.Ab Go.RowKit
instance:Ja UInt8 where
 sz:=1
 pos:=by decide
 cs _ l x:=l=[.int .u8 x.toNat]
 Hg h:=by rw [h];rfl
 up _ h:=h
 wg h:=by rw [h];rfl
def LA (l:List UInt8):Option Int:=if l.length≤9223372036854775806 then (match Lib.parseIntB 64 l with | .ok v=>some v | _=>none) else none
def mA (l sub:List UInt8):Option Bool:=if l.length<4294967281 then some (Lib.contains l sub) else none
end Go.jc
namespace Go.jc
open Go.Ab Go.RowKit
section
variable {μ aj:M}{w0 w w':World}{rs:List mb}{T:TypeId}
def Hs (w:World) (aj:M):Prop:=∀ w',aj w'→w.heap.size≤w'.heap.size∧∀ k,k<w.heap.size→w'.heap[k]?=w.heap[k]?
theorem _root_.Go.Ab.Sep.borrow (h:ia μ w0 w rs):∃ aj,da μ aj∧ia aj w w []∧Hs w aj:=by
 refine ⟨fun w'=>μ w'∧(w.heap.size≤w'.heap.size∧∀ k,k<w.heap.size→w'.heap[k]?=w.heap[k]?),fun _ hw=>hw.1,Sep.start w _ _ ?_,fun _ hw=>hw.2⟩;intro w' b c;exact ⟨h.Li w' b fun k a _=>c k a trivial,b,fun k a=>c k a trivial⟩
theorem _root_.Go.Ab.Sep.back {c:M}(h:ia μ w0 w rs) (d:Hs w aj) (hle:da aj c) (b:ia c w w' []):ia μ w0 w' rs :=
 h.grow ⟨b.keeps.os,b.keeps.tape,b.keeps.output,b.keeps.size,fun k e _=>(d w' (hle _ b.a)).2 k e⟩
theorem Hs.holds {r:mb}(a:Hs w aj) (h:r.holds w) (hw:aj w'):r.holds w':=holds_of h fun b c=>(a w' hw).2 b (jB h c)
theorem _root_.Go.Ab.Row.shape {v:Value}{sz n:Nat}{xs:List Value}(h:Row w v T sz n xs):∃ a c,v=.slice a n c:=by
 rcases h.2 with ⟨rfl,rfl⟩ | ⟨g,o,cap,cur,rfl,-⟩
 ·exact ⟨_,_,rfl⟩
 ·exact ⟨_,_,rfl⟩
theorem _root_.Go.Ab.Row.rd {α:Type}[Ja α]{a:Option Addr}{c:Nat}{cells:List Value}{l:List α}(k:Hs w aj) (hle:da μ aj) (h:Row w (.slice a l.length c) T (Ja.sz α) l.length cells) (m:na μ cells l):Da aj a c l:=by
 have n:∀ w',aj w'→Row w' (.slice a l.length c) T (Ja.sz α) l.length cells:=fun w' hw=>k.holds (r:=.row (.slice a l.length c) T (Ja.sz α) l.length cells) h hw;rcases h.2 with ⟨e,p⟩ | ⟨g,o,cap,cur,e,A,q,s,B,C⟩
 ·obtain rfl:=List.eq_nil_of_length_eq_zero p;obtain ⟨rfl,-,rfl⟩:=Value.slice.inj e;exact Da.nil
 ·obtain ⟨rfl,-,rfl⟩:=Value.slice.inj e;refine ⟨q,s,.inr ⟨g,o,rfl,fun i=>(cells.drop (i*Ja.sz α)).take (Ja.sz α),fun i x f=>⟨?_,Ja.up hle (m.get f)⟩⟩⟩;intro t v j u d;have y:0<l.length:=by have:=(List.getElem?_eq_some_iff.1 f).1;omega
  obtain ⟨b,o',c,Wa,hc⟩:=(n t v).Mn y;simp at Wa;obtain ⟨⟨rfl,rfl⟩,rfl⟩:=Wa;have z:j<Ja.sz α:=by
   have:=(List.getElem?_eq_some_iff.1 d).1;simp at this;omega
  rw [List.getElem?_take_of_lt z,List.getElem?_drop] at d;have:=hc _ u d;rw [← Nat.add_assoc] at this;exact this
theorem _root_.Go.Ab.oi.rd {b:Nat}{cells:List Value}(a:Hs w aj) (h:oi w b T cells):Hc aj b 0 cells:=fun w' hw=>oi.cells (a.holds (r:=.ba b T cells) h hw)
def Kx {α:Type}(l:List α) (i j:Int):Option (List α):=if 0≤i∧i≤j∧j≤l.length then some (l.take i.toNat++l.drop j.toNat) else none
theorem del_eq {α:Type}{l a:List α}{i j:Int}(h:Kx l i j=some a):(0≤i∧i≤j∧j≤l.length)∧a=l.take i.toNat++l.drop j.toNat:=by
 unfold Kx at h;split at h
 ·rename_i c;exact ⟨c,(Option.some.inj h).symm⟩
 ·cases h
theorem tF {w:World}{g o:Nat}{cur:Array Value}{T:TypeId}(a:w.heap[g]?=some (.cells cur T (0,0))):w.frozen? ⟨g,o,none⟩=false:=by
 simp [World.frozen?,a]
theorem AE {α:Type}[Inhabited α] (enc:α→Value) (off:Nat) (d:Array α) (c:Array Value) (k:Nat):(Go.Sort.putCells enc off d c)[k]?=(c[k]?).map fun x=>if off≤k∧k<off+d.size then enc d[k - off]! else x:=by
 unfold Go.Sort.putCells;rw [Array.getElem?_mapIdx]
theorem vI {w:World}{g o cap:Nat}{l:List (List UInt8)}{T:TypeId}{i j:Nat}{q:Nat}(h:Row w (.slice (some ⟨g,o,none⟩) l.length cap) T 1 l.length (l.map S)) (m:i≤j) (n:j≤l.length) :
  Row (Go.Sort.putRow (fun x:List UInt8=>S x) (Go.Sort.ahead w q) g o (l.take i++l.drop j++List.replicate (j - i) []).toArray) (.slice (some ⟨g,o,none⟩) (l.take i++l.drop j).length cap) T 1 (l.take i++l.drop j).length ((l.take i++l.drop j).map S) ∧
  Fh (fun b=>b≠g) w (Go.Sort.putRow (fun x:List UInt8=>S x) (Go.Sort.ahead w q) g o (l.take i++l.drop j++List.replicate (j - i) []).toArray):=by
 rcases h.2 with ⟨e,-⟩ | ⟨p,o',r,cur,e,a,s,d,t,u⟩
 ·cases e
 ·cases e;have len:(l.take i++l.drop j).length=l.length - (j - i):=by simp;omega
  constructor
  ·refine ⟨by simp,.inr ⟨g,o,cap,Go.Sort.putCells (fun x:List UInt8=>S x) o (l.take i++l.drop j++List.replicate (j - i) []).toArray cur,rfl,?_,by omega,d,?_,?_⟩⟩
   ·simp only [Go.Sort.putRow,Go.Sort.mapBlock,Go.Sort.ahead,Array.getElem?_modify];rw [if_pos trivial,a];rfl
   ·simp [Go.Sort.putCells];omega
   ·apply List.ext_getElem?;intro k;rw [List.getElem?_take,Nat.mul_one];by_cases c:k<(l.take i++l.drop j).length
    ·rw [if_pos c,List.getElem?_drop,Array.getElem?_toList,AE];have hs:o+k<cur.size:=by omega
     rw [Array.getElem?_eq_getElem hs];simp only [Option.map_some];have c2:k<(l.take i++l.drop j++List.replicate (j - i) ([]:List UInt8)).length:=by rw [List.length_append];omega
     rw [if_pos ⟨by omega,by simp only [List.size_toArray];omega⟩,List.getElem?_map,List.getElem?_eq_getElem c];have e:o+k - o=k:=by omega
     rw [e];simp only [Option.map_some];congr 2;rw [getElem!_pos _ k (by simpa using c2)];simp only [List.getElem_toArray];rw [List.getElem_append_left c]
    ·rw [if_neg c,List.getElem?_eq_none (by simpa using c)]
  ·refine ⟨rfl,rfl,rfl,by simp [Go.Sort.putRow,Go.Sort.mapBlock,Go.Sort.ahead],fun k v f=>?_⟩;simp only [Go.Sort.putRow,Go.Sort.mapBlock,Go.Sort.ahead,Array.getElem?_modify];rw [if_neg fun h=>f h.symm]
end
section
variable {P:Program}{Q:Exit→Act→World→Prop}{K:List Value→List Deferred→World→Prop}{fr ua:List Value}{ds:List Deferred}{w w':World}
variable {dst:Option Tmp}{ty:TypeId}{pos:String}{after:Array Edge}{g:Option (Nat×Bool)}{T:TypeId}{Hf:Bool}{xd:List Value}{rs rs':List mb}{μ:M}{w0:World}
end
end Go.jc
namespace Go.jc
open Go.Ab Go.RowKit
theorem Wv {κ β:Type}[DecidableEq κ]:∀ (m:List (κ×β)) (a k:κ) (x:β),zc (Gd m a x) k=if a=k then some x else zc m k
 | [],a,k,x=>by simp [Gd,zc]
 | (b,y)::m,a,k,x=>by
  by_cases h:b=a
  ·subst h;simp only [Gd,zc,if_pos];split<;>rfl
  ·simp only [Gd,zc,if_neg h,Wv m a k x];by_cases c:b=k
   ·subst c;simp [Ne.symm h]
   ·simp [c]
section
variable {P:Program}{w:World}{T:TypeId}{xd:List Value}{n:Nat}
end
section
variable {P:Program}{Q:Exit→Act→World→Prop}{K:List Value→List Deferred→World→Prop}{fr ua:List Value}{ds:List Deferred}{w:World}
variable {dst:Option Tmp}{ty:TypeId}{pos:String}{after:Array Edge}{g:Option (Nat×Bool)}
variable {w0:World}{rs rs':List mb}{μ I:M}
variable {T:TypeId}
end
section
variable {P:Program}(w:World)
end
end Go.jc
namespace Go.jc
abbrev wd (l:List UInt8) (p:Nat):Nat:=(Utf8.decode ⟨⟨l⟩⟩ p).2
end Go.jc
namespace Go.jc
open Go.Ab
def MA (a b : Int) : Int := IntKind.wrap .i64 ((BitVec.ofInt 64 a &&& BitVec.ofInt 64 b).toNat : Int)
def TA (a b : Int) : Int := IntKind.wrap .i64 ((BitVec.ofInt 64 a ||| BitVec.ofInt 64 b).toNat : Int)
section
variable {P : Program}{Q : Exit → Act → World → Prop}{K : List Value → List Deferred → World → Prop}{fr ua : List Value}{ds : List Deferred}{w : World}{dst : Option Tmp}{ty : TypeId}{pos : String}{after : Array Edge}{g : Option (Nat × Bool)}
theorem gK {x y : Operand}{t Ob : TypeId}{a b : Int}(c : cb fr x (.int .i64 a)) (d : cb fr y (.int .i64 b)) : Qe P (Oper.mk dst (.binOp .and t x y Ob) ty pos after g) fr (.int .i64 (MA a b)):= ⟨fun ds w => by
  simp only [execOp, c ds, d ds, eqGuard, binOp, Op.intBits, IntKind.bits, Sem.run_bind, Sem.run_pure, Result.andThen_ok];simp;rfl⟩
theorem hK {x y : Operand}{t Ob : TypeId}{a b : Int}(c : cb fr x (.int .i64 a)) (d : cb fr y (.int .i64 b)) (e : Te fr dst (.int .i64 (MA a b)) ua) (f : K ua ds w) : Kd P (Oper.mk dst (.binOp .and t x y Ob) ty pos after g) fr ds w K Q := ta (gK c d) e f
theorem LL {x y : Operand}{t Ob : TypeId}{a b : Int}(c : cb fr x (.int .i64 a)) (d : cb fr y (.int .i64 b)) : Qe P (Oper.mk dst (.binOp .or t x y Ob) ty pos after g) fr (.int .i64 (TA a b)):= ⟨fun ds w => by
  simp only [execOp, c ds, d ds, eqGuard, binOp, Op.intBits, IntKind.bits, Sem.run_bind, Sem.run_pure, Result.andThen_ok];simp;rfl⟩
theorem ML {x y : Operand}{t Ob : TypeId}{a b : Int}(c : cb fr x (.int .i64 a)) (d : cb fr y (.int .i64 b)) (e : Te fr dst (.int .i64 (TA a b)) ua) (f : K ua ds w) : Kd P (Oper.mk dst (.binOp .or t x y Ob) ty pos after g) fr ds w K Q := ta (LL c d) e f
end
end Go.jc
namespace Go.jc
open Go.Ab Go.RowKit
theorem Lc {α:Type}{c:Prop}[Decidable c]{y:Option α}{r:α}{G:Prop}(h:(if c then none else y)=some r) (hc:c):G:=by rw [if_pos hc] at h;cases h
theorem qh {α:Type}{c:Prop}[Decidable c]{x:Option α}{r:α}{G:Prop}(h:(if c then x else none)=some r) (hc:¬ c):G:=by rw [if_neg hc] at h;cases h
section
variable {P:Program}{Q Q':Exit→Act→World→Prop}{fr ua:List Value}{ds:List Deferred}{w:World}{ops:Array Oper}{y:Code}{id:Nat}{l:List Oper}
theorem la (h:te P y Q' fr ds w):Gf P ops (Exit.then (bo P y Q') Q) [] fr ds w:=sa (ma h)
theorem YM (h:te P y Q' fr ds w):Fi P ops (Exit.then (bo P y Q') Q) [] fr ds w:=MJ (ma h)
theorem ea (h:Gf P l.toArray (Exit.then (bo P y Q) Q) l fr ds w):te P (.seq (.region id l.toArray false) y) Q fr ds w:=wa (Aa h)
theorem ab (h:Gf P l.toArray (Exit.then (bo P y Q') Q') l fr ds w):Gf P ops (Exit.then (bo P (.seq (.region id l.toArray false) y) Q') Q) [] fr ds w:=sa (ma (wa (Aa h)))
theorem hb {x:Code}(h:te P x (Exit.then (bo P y Q') Q') fr ds w):Gf P ops (Exit.then (bo P (.seq x y) Q') Q) [] fr ds w:=sa (ma (wa h))
variable {R R':List Nat}{dst:Tmp}{op:Op}{ty:TypeId}{pos:String}{after:Array Edge}{v:Value}{vc:List Mon}{j d:Nat}{b qg:Bool}
theorem vE (i:Nat) (he:(decide R.Nodup && enabled ops R i && apart ops false R i,R.erase i,ops[i]?)=(true,R',some ⟨some dst,op,ty,pos,after,none⟩)) (Wa:Qe P ⟨some dst,op,ty,pos,after,none⟩ fr v) (a:uc fr dst v ua) (h:Fi P ops Q R' ua ds w) (b:hi Q dst:=by first | exact fun _ _ _ _ _ h=>h | exact Db fun _ _ _ h=>h.2 | exact Db fun _ _ _ h=>h.2.2):Fi P ops Q R fr ds w:=EL b (congrArg (·.1) he) (congrArg (·.2.1) he) (congrArg (·.2.2) he) Wa a h
theorem wE (i:Nat) (S:List Nat) (he:(decide R.Nodup && enabled ops R i && waits ops R S i && gx ops S R i,R.erase i,ops[i]?)=(true,R',some ⟨some dst,op,ty,pos,after,none⟩)) (Wa:Dl P ⟨some dst,op,ty,pos,after,none⟩ fr w v) (a:uc fr dst v ua) (h:Fi P ops Q R' ua ds w) (b:hi Q dst:=by first | exact fun _ _ _ _ _ h=>h | exact Db fun _ _ _ h=>h.2 | exact Db fun _ _ _ h=>h.2.2):Fi P ops Q R fr ds w:=VJ S b (congrArg (·.1) he) (congrArg (·.2.1) he) (congrArg (·.2.2) he) Wa a h
theorem ee (i:Nat) (S:List Nat) (he:(decide R.Nodup && enabled ops R i && waits ops R S i && Ak ops S R i && S.contains i,R.erase i,ops[i]?)=(true,R',some ⟨some dst,op,ty,pos,after,none⟩)) (Wa:Qe P ⟨some dst,op,ty,pos,after,none⟩ fr v) (a:uc fr dst v ua) (h:ff P ops Q vc R' ua ds w) (b:hi Q dst:=by first | exact fun _ _ _ _ _ h=>h | exact Db fun _ _ _ h=>h.2 | exact Db fun _ _ _ h=>h.2.2):ff P ops Q vc R fr ds w:=zf S b (congrArg (·.1) he) (congrArg (·.2.1) he) (congrArg (·.2.2) he) Wa a h
theorem df (i:Nat) (S:List Nat) (he:(decide R.Nodup && enabled ops R i && waits ops R S i && Ak ops S R i && S.contains i,R.erase i,ops[i]?)=(true,R',some ⟨some dst,op,ty,pos,after,some (j,b)⟩)) (a:(ops[j]?).bind (·.dst)=some d) (c:Vb fr d (.bool b)) (Wa:Qe P ⟨some dst,op,ty,pos,after,some (j,b)⟩ fr v) (e:uc fr dst v ua) (h:ff P ops Q vc R' ua ds w) (f:hi Q dst:=by first | exact fun _ _ _ _ _ h=>h | exact Db fun _ _ _ h=>h.2 | exact Db fun _ _ _ h=>h.2.2):ff P ops Q vc R fr ds w:=Cj S f (congrArg (·.1) he) (congrArg (·.2.1) he) (congrArg (·.2.2) he) a c Wa e h
theorem Cd (i:Nat) (S:List Nat) (he:(decide R.Nodup && enabled ops R i && waits ops R S i && Ak ops S R i && S.contains i,R.erase i,ops[i]?)=(true,R',some ⟨some dst,op,ty,pos,after,some (j,b)⟩)) (a:(ops[j]?).bind (·.dst)=some d) (c:Vb fr d (.bool qg)) (e:(qg == b)=false) (f:uc fr dst undef ua) (h:ff P ops Q vc R' ua ds w) (g:hi Q dst:=by first | exact fun _ _ _ _ _ h=>h | exact Db fun _ _ _ h=>h.2 | exact Db fun _ _ _ h=>h.2.2):ff P ops Q vc R fr ds w:=mf S g (congrArg (·.1) he) (congrArg (·.2.1) he) (congrArg (·.2.2) he) a c e f h
theorem tj (i:Nat) (S:List Nat) (he:(decide R.Nodup && enabled ops R i && waits ops R S i && Ak ops S R i && S.contains i,R.erase i,ops[i]?)=(true,R',some ⟨some dst,op,ty,pos,after,some (j,b)⟩)) (a:(ops[j]?).bind (·.dst)=some d) (c:Vb fr d undef) (e:uc fr dst undef ua) (h:ff P ops Q vc R' ua ds w) (f:hi Q dst:=by first | exact fun _ _ _ _ _ h=>h | exact Db fun _ _ _ h=>h.2 | exact Db fun _ _ _ h=>h.2.2):ff P ops Q vc R fr ds w:=XJ S f (congrArg (·.1) he) (congrArg (·.2.1) he) (congrArg (·.2.2) he) a c e h
theorem kb (i:Nat) (S:List Nat) (he:(decide R.Nodup && enabled ops R i && waits ops R S i && Ak ops S R i && S.contains i,R.erase i,ops[i]?)=(true,R',some ⟨some dst,op,ty,pos,after,none⟩)) (Wa:Dl P ⟨some dst,op,ty,pos,after,none⟩ fr w v) (a:uc fr dst v ua) (h:ff P ops Q ((S,fun w'=>Dl P ⟨some dst,op,ty,pos,after,none⟩ fr w' v)::vc) R' ua ds w) (b:hi Q dst:=by first | exact fun _ _ _ _ _ h=>h | exact Db fun _ _ _ h=>h.2 | exact Db fun _ _ _ h=>h.2.2):ff P ops Q vc R fr ds w:=Ql S b (congrArg (·.1) he) (congrArg (·.2.1) he) (congrArg (·.2.2) he) Wa a h
theorem mj (i:Nat) (S:List Nat) (he:(decide R.Nodup && enabled ops R i && waits ops R S i && Ak ops S R i && S.contains i,R.erase i,ops[i]?)=(true,R',some ⟨some dst,op,ty,pos,after,some (j,b)⟩)) (a:(ops[j]?).bind (·.dst)=some d) (c:Vb fr d (.bool b)) (Wa:Dl P ⟨some dst,op,ty,pos,after,some (j,b)⟩ fr w v) (e:uc fr dst v ua) (h:ff P ops Q ((S,fun w'=>Dl P ⟨some dst,op,ty,pos,after,some (j,b)⟩ fr w' v)::vc) R' ua ds w) (f:hi Q dst:=by first | exact fun _ _ _ _ _ h=>h | exact Db fun _ _ _ h=>h.2 | exact Db fun _ _ _ h=>h.2.2):ff P ops Q vc R fr ds w:=su S f (congrArg (·.1) he) (congrArg (·.2.1) he) (congrArg (·.2.2) he) a c Wa e h
end
class Al (l:List Value) (n:Nat) (v:outParam Value):Prop where out:Vb l n v
instance {v:Value}{l:List Value}:Al (v::l) 0 v:=⟨rfl⟩
instance {a v:Value}{l:List Value}{n:Nat}[h:Al l n v]:Al (a::l) (n+1) v:=⟨h.out⟩
instance (priority:=2000){c0 c1 c2 c3 c4 c5 yd mg rh c9 v:Value}{l:List Value}{n:Nat}[h:Al l n v]:Al (c0::c1::c2::c3::c4::c5::yd::mg::rh::c9::l) (n+10) v:=⟨h.out⟩
class Ze (l:List Value) (n:Nat) (v:Value) (a:outParam (List Value)):Prop where out:uc l n v a
instance {a v:Value}{l:List Value}:Ze (a::l) 0 v (v::l):=⟨rfl⟩
instance {a v:Value}{l b:List Value}{n:Nat}[h:Ze l n v b]:Ze (a::l) (n+1) v (a::b):=⟨congrArg (a::·) h.out⟩
instance (priority:=2000){c0 c1 c2 c3 c4 c5 yd mg rh c9 v:Value}{l a:List Value}{n:Nat}[h:Ze l n v a]:Ze (c0::c1::c2::c3::c4::c5::yd::mg::rh::c9::l) (n+10) v (c0::c1::c2::c3::c4::c5::yd::mg::rh::c9::a):=⟨congrArg (c0::c1::c2::c3::c4::c5::yd::mg::rh::c9::·) h.out⟩
class Ec (fr:List Value) (x:Operand) (v:outParam Value):Prop where out:cb fr x v
instance {fr:List Value}{n:Nat}{v:Value}[h:Al fr n v]:Ec fr (.tmp n) v:=⟨aa h.out⟩
instance {fr:List Value}{v:Value}:Ec fr (.const v) v:=⟨Fa⟩
class Uj (P:Program) (op:Op) (fr:List Value) (v:outParam Value):Prop where out:∀ dst ty pos after g,Qe P (Oper.mk dst op ty pos after g) fr v
section
variable {P:Program}{fr:List Value}{x y c:Operand}{v:Value}{t Ob:TypeId}{k:IntKind}{a b:Int}
instance [h:Ec fr x v]:Uj P (.move x) fr v:=⟨fun _ _ _ _ _=>Qg h.out⟩
instance [h:Ec fr x v]:Uj P (.assign x) fr v:=⟨fun _ _ _ _ _=>fz h.out⟩
instance {a:Addr}[h:Ec fr x (.pointer (some a))]:Uj P (.nilCheck x) fr (.pointer (some a)):=⟨fun _ _ _ _ _=>Oh h.out⟩
instance [c:Ec fr x (.int k a)] [d:Ec fr y (.int k b)]:Uj P (.binOp .eql t x y Ob) fr (.bool (decide (a=b))):=⟨fun _ _ _ _ _=>yx c.out d.out⟩
instance [c:Ec fr x (.int k a)] [d:Ec fr y (.int k b)]:Uj P (.binOp .neq t x y Ob) fr (.bool (decide (a≠b))):=⟨fun _ _ _ _ _=>ND c.out d.out⟩
instance [c:Ec fr x (.int k a)] [d:Ec fr y (.int k b)]:Uj P (.binOp .lss t x y Ob) fr (.bool (decide (a<b))):=⟨fun _ _ _ _ _=>zu c.out d.out⟩
instance [c:Ec fr x (.int k a)] [d:Ec fr y (.int k b)]:Uj P (.binOp .leq t x y Ob) fr (.bool (decide (a≤b))):=⟨fun _ _ _ _ _=>MD c.out d.out⟩
instance [c:Ec fr x (.int k a)] [d:Ec fr y (.int k b)]:Uj P (.binOp .gtr t x y Ob) fr (.bool (decide (b<a))):=⟨fun _ _ _ _ _=>bs c.out d.out⟩
instance [c:Ec fr x (.int k a)] [d:Ec fr y (.int k b)]:Uj P (.binOp .geq t x y Ob) fr (.bool (decide (b≤a))):=⟨fun _ _ _ _ _=>jA c.out d.out⟩
end
section
variable {P:Program}{Q:Exit→Act→World→Prop}{fr ua:List Value}{ds:List Deferred}{w:World}{ops:Array Oper}{rest:List Oper}{d:Tmp}{op:Op}{ty:TypeId}{pos:String}{after:Array Edge}{v:Value}
theorem st [hu:Uj P op fr v] [a:Ze fr d v ua] (h:Gf P ops Q rest ua ds w):Gf P ops Q (⟨some d,op,ty,pos,after,none⟩::rest) fr ds w:=wl (ta (hu.out _ _ _ _ _) (ha a.out) h)
end
class sl (fr:List Value) (xs:List Operand) (vs:outParam (List Value)):Prop where out:xl fr xs vs
instance {fr:List Value}:sl fr [] []:=⟨Ib⟩
instance {fr:List Value}{x:Operand}{v:Value}{xs:List Operand}{vs:List Value}[h:Ec fr x v] [k:sl fr xs vs]:sl fr (x::xs) (v::vs):=⟨ra h.out k.out⟩
section
variable {P:Program}{fr:List Value}{x y c:Operand}{v:Value}{t Ob T:TypeId}{b:Nat}{o off i:Nat}{vs:List Value}{q:Bool}
instance [a:bd P T i off] [h:Ec fr x (.pointer (some ⟨b,o,none⟩))]:Uj P (.fieldAddr T x i) fr (.pointer (some ⟨b,o+off,none⟩)):=⟨fun _ _ _ _ _=>Xg a h.out rfl⟩
instance [hc:Ec fr c (.bool true)] [h:Ec fr x v]:Uj P (.pick c x y) fr v:=⟨fun _ _ _ _ _=>Gn hc.out h.out⟩
instance [hc:Ec fr c (.bool false)] [h:Ec fr y v]:Uj P (.pick c x y) fr v:=⟨fun _ _ _ _ _=>Zt hc.out h.out⟩
instance [h:Ec fr x (.bool q)]:Uj P (.unOp .not t x) fr (.bool (!q)):=⟨fun _ _ _ _ _=>AL h.out⟩
instance [h:Ec fr x (.tuple ⟨vs⟩)] [k:Al vs i v]:Uj P (.extract x i) fr v:=⟨fun _ _ _ _ _=>JJ h.out k.out⟩
end
section
variable {P:Program}{Q:Exit→Act→World→Prop}{fr ua:List Value}{ds:List Deferred}{w:World}{ops:Array Oper}{rest:List Oper}{d:Tmp}{op:Op}{ty:TypeId}{pos:String}{after:Array Edge}{v:Value}{j e:Nat}{b qg:Bool}
theorem Ea [hu:Uj P op fr v] [a:Ze fr d v ua] (c:(ops[j]?).bind (·.dst)=some e) [f:Al fr e (.bool b)] (h:Gf P ops Q rest ua ds w):Gf P ops Q (⟨some d,op,ty,pos,after,some (j,b)⟩::rest) fr ds w:=kc c f.out (ta (hu.out _ _ _ _ _) (ha a.out) h)
theorem sn [a:Ze fr d undef ua] (c:(ops[j]?).bind (·.dst)=some e) [f:Al fr e (.bool qg)] (g:(qg == b)=false) (h:Gf P ops Q rest ua ds w):Gf P ops Q (⟨some d,op,ty,pos,after,some (j,b)⟩::rest) fr ds w:=wn c f.out g (ha a.out) h
theorem Ba {T:TypeId}{xd:List Value}{n m o q:Nat}{x:Operand}[a:qc P T false xd n m] (hc:w.cell? ⟨q,o,none⟩=some v) [b:Ec fr x (.pointer (some ⟨q,o,none⟩))] [c:Ze fr d v ua] (h:Gf P ops Q rest ua ds w):Gf P ops Q (⟨some d,.load T x,ty,pos,after,none⟩::rest) fr ds w:=wl (Zd a b.out hc (ha c.out) h)
theorem pg {T:TypeId}{xd cs:List Value}{n m o q:Nat}{x:Operand}[a:qc P T true xd n m] (hc:gj w q o cs) (b:cs.length=n) [c:Ec fr x (.pointer (some ⟨q,o,none⟩))] [e:Ze fr d (.agg ⟨cs⟩) ua] (h:Gf P ops Q rest ua ds w):Gf P ops Q (⟨some d,.load T x,ty,pos,after,none⟩::rest) fr ds w:=wl (bu a c.out hc b (ha e.out) h)
theorem Ra {dst:Option Tmp}{xs:List Operand}{tys:Array TypeId}{k:FuncId}{vs:List Value}{R:Value→World→Prop}[a:Hb P k] [hs:sl fr xs vs] (hc:tb P k vs w R) (h:∀ v w',R v w'→hh fr dst v fun ua=>Gf P ops Q rest ua ds w') :
  Gf P ops Q (⟨dst,.call { callee:=.value (.func k),args:=⟨xs⟩,argTypes:=tys },ty,pos,after,none⟩::rest) fr ds w:=wl (Yd a Hd hs.out hc h)
theorem Ld {id:Nat}{l:List Oper}{μ:M}{w0:World}{rs:List mb}(a:ia μ w0 w rs) (h:∀ w',ia μ w0 w' rs→Fi P l.toArray Q (List.range l.length) fr ds w') (hm:P.follows .mixedOrders=true:=by kernel_rfl) (b:(List.range l.toArray.size).all (fun i=>(Yk l.toArray i).all fun j=>decide (j<i))=true:=by rfl):te P (.region id l.toArray true) Q fr ds w :=
 kA hm b fun w' c d e f=>h w' (a.drew c d e f)
theorem ka {v:Value}{K:List Value→Prop}[a:Ze fr d v ua] (h:K ua):hh fr (some d) v K:=pu (ha a.out) h
theorem tq {R R':List Nat}(i:Nat) (he:(decide R.Nodup && enabled ops R i && apart ops false R i,R.erase i,ops[i]?)=(true,R',some ⟨some d,op,ty,pos,after,none⟩)) [Wa:Uj P op fr v] [a:Ze fr d v ua] (h:Fi P ops Q R' ua ds w) (b:hi Q d:=by first | exact fun _ _ _ _ _ h=>h | exact Db fun _ _ _ h=>h.2 | exact Db fun _ _ _ h=>h.2.2):Fi P ops Q R fr ds w :=
 vE i he (Wa.out _ _ _ _ _) a.out h b
theorem ja {vc:List Mon}{R R':List Nat}(i:Nat) (S:List Nat) (he:(decide R.Nodup && enabled ops R i && waits ops R S i && Ak ops S R i && S.contains i,R.erase i,ops[i]?)=(true,R',some ⟨some d,op,ty,pos,after,none⟩)) [Wa:Uj P op fr v] [a:Ze fr d v ua] (h:ff P ops Q vc R' ua ds w) (b:hi Q d:=by first | exact fun _ _ _ _ _ h=>h | exact Db fun _ _ _ h=>h.2 | exact Db fun _ _ _ h=>h.2.2):ff P ops Q vc R fr ds w :=
 ee i S he (Wa.out _ _ _ _ _) a.out h b
end
section
variable {rs rs':List mb}{pa a2 a3 a4 a5 Eb dc jb a9 Bd Dc a12 r:mb}
theorem rb:zd (pa::r::rs) 1 (r::pa::rs):=.s (zd.z)
theorem nc:zd (pa::a2::r::rs) 2 (r::pa::a2::rs):=.s (.s (zd.z))
theorem Rb:zd (pa::a2::a3::r::rs) 3 (r::pa::a2::a3::rs):=.s (.s (.s (zd.z)))
theorem La:zd (pa::a2::a3::a4::r::rs) 4 (r::pa::a2::a3::a4::rs):=.s (.s (.s (.s (zd.z))))
theorem me:zd (pa::a2::a3::a4::a5::r::rs) 5 (r::pa::a2::a3::a4::a5::rs):=.s (.s (.s (.s (.s (zd.z)))))
theorem wc:zd (pa::a2::a3::a4::a5::Eb::r::rs) 6 (r::pa::a2::a3::a4::a5::Eb::rs):=.s (.s (.s (.s (.s (.s (zd.z))))))
theorem mh:zd (pa::a2::a3::a4::a5::Eb::dc::r::rs) 7 (r::pa::a2::a3::a4::a5::Eb::dc::rs):=.s (.s (.s (.s (.s (.s (.s (zd.z)))))))
end
section
variable {P:Program}{Q:Exit→Act→World→Prop}{fr di ei:List Value}{ds:List Deferred}{w:World}{ops:Array Oper}{l:List Oper}{R:List Nat}{vc:List Mon}{c:Operand}{x y:Code}{p:Prop}[Decidable p]{b:Bool}{d:Nat}{α:Type}{A B:Option α}{r:α}
theorem vb (h:(if p then A else B)=some r) [hc:Ec fr c (.bool (decide p))] (a:p→A=some r→te P x Q fr ds w) (b:¬ p→B=some r→te P y Q fr ds w):te P (.cond c x y) Q fr ds w:=gd hc.out (fun q=>a q (kg q h)) (fun q=>b q (Bc q h))
theorem vf (h:(if b=true then A else B)=some r) [hc:Ec fr c (.bool b)] (a:b=true→A=some r→te P x Q fr ds w) (d:¬ b=true→B=some r→te P y Q fr ds w):te P (.cond c x y) Q fr ds w:=Zh hc.out (fun q=>a q (kg q h)) (fun q=>d q (Bc q h))
theorem zm (h:(if b=true then A else B)=some r) [hc:Ec fr c (.bool (!b))] (a:¬ b=true→B=some r→te P x Q fr ds w) (d:b=true→A=some r→te P y Q fr ds w):te P (.cond c x y) Q fr ds w:=To hc.out (fun q=>a q (Bc q h)) (fun q=>d q (kg q h))
theorem jf (d:Nat) (h:(if p then A else B)=some r) [a:Al fr d (.bool (decide p))] [b:Ze fr d (.bool true) di] [c:Ze fr d (.bool false) ei] (e:p→A=some r→Gf P ops Q l di ds w) (f:¬ p→B=some r→Gf P ops Q l ei ds w):Gf P ops Q l fr ds w:=Wg a.out b.out c.out (fun q=>e q (kg q h)) (fun q=>f q (Bc q h))
theorem UA (d:Nat) (h:(if b=true then A else B)=some r) [a:Al fr d (.bool b)] [c:Ze fr d (.bool true) di] [e:Ze fr d (.bool false) ei] (f:b=true→A=some r→Gf P ops Q l di ds w) (g:¬ b=true→B=some r→Gf P ops Q l ei ds w):Gf P ops Q l fr ds w:=yM a.out c.out e.out (fun q=>f q (kg q h)) (fun q=>g q (Bc q h))
theorem VA (d:Nat) (h:(if b=true then A else B)=some r) [a:Al fr d (.bool (!b))] [c:Ze fr d (.bool true) di] [e:Ze fr d (.bool false) ei] (f:¬ b=true→B=some r→Gf P ops Q l di ds w) (g:b=true→A=some r→Gf P ops Q l ei ds w):Gf P ops Q l fr ds w:=FL a.out c.out e.out (fun q=>f q (Bc q h)) (fun q=>g q (kg q h))
theorem Xl (d:Nat) (h:(if p then A else B)=some r) [a:Al fr d (.bool (decide p))] [b:Ze fr d (.bool true) di] [c:Ze fr d (.bool false) ei] (e:p→A=some r→ff P ops Q vc R di ds w) (f:¬ p→B=some r→ff P ops Q vc R ei ds w):ff P ops Q vc R fr ds w:=iE a.out b.out c.out (fun q=>e q (kg q h)) (fun q=>f q (Bc q h))
end
abbrev yf (l:List Value):List Value:=undef::l
abbrev Uc (l:List Value):List Value:=undef::undef::l
abbrev qe (l:List Value):List Value:=undef::undef::undef::undef::undef::l
abbrev rf (l:List Value):List Value:=undef::undef::undef::undef::undef::undef::undef::undef::undef::undef::l
abbrev ye (l:List Value):List Value:=undef::undef::undef::undef::undef::undef::undef::undef::undef::undef::undef::undef::undef::undef::undef::undef::undef::undef::undef::undef::l
abbrev De (l:List Value):List Value:=undef::undef::undef::undef::undef::undef::undef::undef::undef::undef::undef::undef::undef::undef::undef::undef::undef::undef::undef::undef::undef::undef::undef::undef::undef::undef::undef::undef::undef::undef::undef::undef::undef::undef::undef::undef::undef::undef::undef::undef::undef::undef::undef::undef::undef::undef::undef::undef::undef::undef::l
end Go.jc
namespace Go.jc
theorem Ma {α : Type}{a b : α}(h : some a = some b) : a = b := Option.some.inj h
abbrev rg : Nat → Nat → List Nat := fun a b => List.range' a b
end Go.jc
