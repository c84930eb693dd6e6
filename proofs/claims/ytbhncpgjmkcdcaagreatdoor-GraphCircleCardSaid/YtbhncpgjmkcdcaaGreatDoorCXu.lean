/- Texts of Xu. -/
import Derived.Test.YtbhncpgjmkcdcaaGreatDoorCXt
import Derived.Laws.MakeOwn
import Derived.Laws.CopyRow
import Derived.Laws.IdiomCopy
import Derived.Shelf.Strconv.ParseIntPublic10
import Derived.Lib.IndexMore
import Derived.Sort.Row
set_option linter.unusedSimpArgs false
set_option linter.unusedVariables false
set_option linter.unusedSectionVars false
namespace Go.kc
open Go.yb Go.RowKit
theorem na.split {α:Type}[Ha α]{μ:M}:∀ {l:List α}{cells:List Value}{i:Nat}{x:α},na μ cells l→l[i]?=some x →
  ∃ Pf cs ak,cells=Pf++(cs++ak)∧Pf.length=i*Ha.sz α∧Ha.cs μ cs x∧∀ (I:M) (a:List Value) (c:α),da μ I→Ha.cs I a c→na I (Pf++(a++ak)) (l.set i c)
 | [],cells,i,x,h,b=>by simp at b
 | y::l,cells,i,x,h,b=>by
  rw [na] at h;obtain ⟨cs,t,rfl,f,j⟩:=h;cases i with
  | zero =>
   simp at b;subst b;exact ⟨[],cs,t,rfl,by simp,f,fun I a c d g=>⟨a,t,rfl,g,j.up d⟩⟩
  | succ i =>
   simp at b;obtain ⟨Pf,ps,ak,rfl,e,m,st⟩:=na.split j b;exact ⟨cs++Pf,ps,ak,by simp,by simp [e,Ha.Dg f,Nat.add_mul];omega,m,fun I a c d g=>⟨cs,Pf++(a++ak),by simp,Ha.up d f,st I a c d g⟩⟩
theorem _root_.Go.yb.Row.Ah {α:Type}[Ha α]{w:World}{T:TypeId}{n:Nat}{μ:M}{v:Value}{cells:List Value}{l:List α}{i:Int}{x:α}(h:Row w v T (Ha.sz α) n cells) (d:na μ cells l) (y:l.length=n) (g:at_ l i=some x) :
  ∃ b o Pf cs ak,cells=Pf++(cs++ak)∧oj v (Ha.sz α) i b o∧(∀ w T a,Row w v T (Ha.sz α) n (Pf++(a++ak))→a.length=Ha.sz α→aj w b o a)∧Ha.cs μ cs x∧Pf.length=i.toNat*Ha.sz α ∧
   (∀ (I:M) (a:List Value) (f:α),da μ I→Ha.cs I a f→na I (Pf++(a++ak)) (l.set i.toNat f))∧na μ (Pf++(cs++ak)) l:=by
 obtain ⟨p,z,q⟩:=ax g;obtain ⟨b,o,c,rfl,hc⟩:=h.Bn (by omega);obtain ⟨Pf,cs,ak,rfl,e,m,st⟩:=d.split q;refine ⟨b,o+i.toNat*Ha.sz α,Pf,cs,ak,rfl,⟨o,_,_,rfl,p,by omega,rfl⟩,?_,m,e,st,d⟩;intro A B a r C j u k;obtain ⟨jg,o',c',Wa,s⟩:=r.Bn (by omega);simp at Wa;obtain ⟨⟨rfl,rfl⟩,rfl⟩:=Wa;have t:j<a.length:=(List.getElem?_eq_some_iff.1 k).1;have:=s (Pf.length+j) u (by rw [List.getElem?_append_right (by omega),show Pf.length+j - Pf.length=j by omega,List.getElem?_append_left t];exact k);rw [e,← Nat.add_assoc] at this;exact this
theorem Em {Pf cs a ak vs:List Value}{i off sz:Nat}(pl:Pf.length=i*sz) (h:cs.take off++vs++cs.drop (off+vs.length)=a) (b:off+vs.length≤cs.length) :
  (Pf++(cs++ak)).take (i*sz+off)++vs++(Pf++(cs++ak)).drop (i*sz+off+vs.length)=Pf++(a++ak):=by
 subst h;rw [← pl,Nat.add_assoc,List.take_append,List.drop_append];simp [List.take_append_of_le_length (show off≤cs.length by omega),List.drop_append_of_le_length b,List.take_of_length_le (show Pf.length≤Pf.length+off by omega),List.drop_of_length_le (show Pf.length≤Pf.length+(off+vs.length) by omega)]
section
variable {P:Program}{Q:Exit→Act→World→Prop}{K:List Value→List Deferred→World→Prop}{fr sa:List Value}{ds:List Deferred}{w:World}
variable {dst:Option Tmp}{ty:TypeId}{pos:String}{after:Array Edge}{g:Option (Nat×Bool)}
variable {w0:World}{rs rs':List kb}{μ I:M}
variable {T:TypeId}
theorem lg.two {es:List MapEntry}{c:Nat}{k0 k1:List UInt8}{x0 x1:Int}(h:lg μ es c [(k0,x0),(k1,x1)]) :
  ∃ Td Ce,es=[⟨S k0,.int .i64 x0,Td⟩,⟨S k1,.int .i64 x1,Ce⟩]∧Td<Ce∧Ce<c:=by
 obtain ⟨e,j,l⟩:=h
 match es,e,j,l with
 | [],e,_,_=>simp [Eg] at e
 | [a],e,_,_ =>
  rw [Eg] at e;obtain ⟨k,x,t,g,-,-,f⟩:=e;simp [Eg] at f g;simp [f] at g
 | [a,b],e,j,l =>
  rw [Eg] at e;obtain ⟨k,x,t,g,m,n,f⟩:=e;rw [Eg] at f;obtain ⟨u,v,Lb,o,p,q,r⟩:=f;subst o;simp only [List.cons.injEq,Prod.mk.injEq] at g;obtain ⟨⟨rfl,rfl⟩,⟨rfl,rfl⟩,-⟩:=g;obtain ⟨w,y,s⟩:=a;obtain ⟨z,bv,i⟩:=b;have n:y=.int .i64 x0:=n;have q:bv=.int .i64 x1:=q;have m:w=S k0:=m;have p:z=S k1:=p;subst m p n q;have A:s<i:=List.rel_of_pairwise_cons l (List.mem_singleton.2 rfl);have B:i<c:=j ⟨S k1,.int .i64 x1,i⟩ (by simp);exact ⟨s,i,rfl,A,B⟩
 | a::b::d::es,e,_,_ =>
  rw [Eg] at e;obtain ⟨k,x,t,g,-,-,f⟩:=e;rw [Eg] at f;obtain ⟨u,v,Lb,o,-,-,r⟩:=f;rw [Eg] at r;obtain ⟨D,F,G,C,-,-,-⟩:=r;subst C o;simp at g
theorem Tv (w:World) (b:Nat) (o:Obj) (a:b<w.heap.size):Eh (fun k=>k≠b) w { w with heap:=w.heap.setIfInBounds b o }∧({ w with heap:=w.heap.setIfInBounds b o }:World).heap[b]?=some o :=
 ⟨⟨rfl,rfl,rfl,by simp,fun j _ c=>by simp [Array.getElem?_setIfInBounds,Ne.symm c]⟩,by simp [a]⟩
theorem NH {x:Operand}{b m c f k Td Ce:Nat}{a0 v0 pa v1:Value}(j:Ya fr x (.pointer (some ⟨b,0,none⟩))) (d:ha μ w0 w rs) (Ua:Pb rs f (.Xk b m c [] c)) (hm:Pb rs k (.map m [⟨a0,v0,Td⟩,⟨pa,v1,Ce⟩] c)) (y:Td<Ce) (l:Ce<c)
  (t:∀ w' rs',oc rs f (.Xk b m c [Td] c) rs'→ha μ w0 w' rs'→bh fr dst (.tuple ⟨[.bool true,a0,v0]⟩) fun sa=>K sa ds w')
  (u:∀ w' rs',oc rs f (.Xk b m c [Ce] c) rs'→ha μ w0 w' rs'→bh fr dst (.tuple ⟨[.bool true,pa,v1]⟩) fun sa=>K sa ds w') :
  Gd P (Oper.mk dst (.next x false) ty pos after g) fr ds w K Q:=by
 have e:w.heap[b]?=some (.mapIter (some m) c ⟨[]⟩ c):=d.get Ua;have n:w.heap[m]?=some (.map ⟨[⟨a0,v0,Td⟩,⟨pa,v1,Ce⟩]⟩ c):=d.get hm;have o:b<w.heap.size:=(Array.getElem?_eq_some_iff.1 e).1;have p:w.drew.heap[b]?=some (.mapIter (some m) c ⟨[]⟩ c):=e;have q:Td<c:=by omega
 have r:¬ Td ≥ c:=by omega
 have s:¬ Ce ≥ c:=by omega
 by_cases Na:(w.tape w.drawn (.mapNext 2)) % 2=0
 ·obtain ⟨h,i⟩:=Tv w.drew b (.mapIter (some m) c ⟨[Td]⟩ c) o;obtain ⟨sa,a⟩:=Ei fr dst (.tuple ⟨[.bool true,a0,v0]⟩);refine Th (w':={ w.drew with heap:=w.drew.heap.setIfInBounds b (.mapIter (some m) c ⟨[Td]⟩ c) }) ?_ a (t _ _ rfl ((d.drew (w':=w.drew) rfl rfl rfl rfl).put (b:=b) Ua rfl rfl rfl i h) sa a);simp [execOp,j ds,Instr.next,getObj,setObj,Sem.run,e,n,Result.andThen,q,l,r,s,choose,Question.forced,Question.cut,Na,p]
 ·have v:(w.tape w.drawn (.mapNext 2)) % 2=1:=by omega
  obtain ⟨h,i⟩:=Tv w.drew b (.mapIter (some m) c ⟨[Ce]⟩ c) o;obtain ⟨sa,a⟩:=Ei fr dst (.tuple ⟨[.bool true,pa,v1]⟩);refine Th (w':={ w.drew with heap:=w.drew.heap.setIfInBounds b (.mapIter (some m) c ⟨[Ce]⟩ c) }) ?_ a (u _ _ rfl ((d.drew (w':=w.drew) rfl rfl rfl rfl).put (b:=b) Ua rfl rfl rfl i h) sa a);simp [execOp,j ds,Instr.next,getObj,setObj,Sem.run,e,n,Result.andThen,q,l,r,s,choose,Question.forced,Question.cut,v,p]
theorem OH {x:Operand}{b m c d k Td Ce:Nat}{a0 v0 pa v1:Value}(j:Ya fr x (.pointer (some ⟨b,0,none⟩))) (a:ha μ w0 w rs) (Ua:Pb rs d (.Xk b m c [Td] c)) (hm:Pb rs k (.map m [⟨a0,v0,Td⟩,⟨pa,v1,Ce⟩] c)) (z:Td<Ce) (l:Ce<c)
  (n:∀ w' rs',oc rs d (.Xk b m c [Td,Ce] c) rs'→ha μ w0 w' rs'→bh fr dst (.tuple ⟨[.bool true,pa,v1]⟩) fun sa=>K sa ds w') :
  Gd P (Oper.mk dst (.next x false) ty pos after g) fr ds w K Q:=by
 have e:w.heap[b]?=some (.mapIter (some m) c ⟨[Td]⟩ c):=a.get Ua;have o:w.heap[m]?=some (.map ⟨[⟨a0,v0,Td⟩,⟨pa,v1,Ce⟩]⟩ c):=a.get hm;have p:b<w.heap.size:=(Array.getElem?_eq_some_iff.1 e).1;have q:¬ Td ≥ c:=by omega
 have r:¬ Ce ≥ c:=by omega
 have s:¬ ∀ (i:Nat) (x:i<2),c≤([⟨a0,v0,Td⟩,⟨pa,v1,Ce⟩]:List MapEntry)[i].born:=fun h=>by have:=h 0 (by decide);simp at this;omega
 have t:¬ Ce=Td:=by omega
 have u:¬ Td=Ce:=by omega
 obtain ⟨v,y⟩:=Tv w b (.mapIter (some m) c ⟨[Td,Ce]⟩ c) p;obtain ⟨sa,f⟩:=Ei fr dst (.tuple ⟨[.bool true,pa,v1]⟩);refine Th (w':={ w with heap:=w.heap.setIfInBounds b (.mapIter (some m) c ⟨[Td,Ce]⟩ c) }) ?_ f (n _ _ rfl (a.put (b:=b) Ua rfl rfl rfl y v) sa f);simp [execOp,j ds,Instr.next,getObj,setObj,Sem.run,e,o,Result.andThen,l,q,r,t,u,s,choose,Question.forced]
theorem yG {x:Operand}{b m c d k Td Ce:Nat}{a0 v0 pa v1:Value}(j:Ya fr x (.pointer (some ⟨b,0,none⟩))) (a:ha μ w0 w rs) (Ua:Pb rs d (.Xk b m c [Ce] c)) (hm:Pb rs k (.map m [⟨a0,v0,Td⟩,⟨pa,v1,Ce⟩] c)) (z:Td<Ce) (A:Ce<c)
  (l:∀ w' rs',oc rs d (.Xk b m c [Ce,Td] c) rs'→ha μ w0 w' rs'→bh fr dst (.tuple ⟨[.bool true,a0,v0]⟩) fun sa=>K sa ds w') :
  Gd P (Oper.mk dst (.next x false) ty pos after g) fr ds w K Q:=by
 have e:w.heap[b]?=some (.mapIter (some m) c ⟨[Ce]⟩ c):=a.get Ua;have n:w.heap[m]?=some (.map ⟨[⟨a0,v0,Td⟩,⟨pa,v1,Ce⟩]⟩ c):=a.get hm;have o:b<w.heap.size:=(Array.getElem?_eq_some_iff.1 e).1;have p:Td<c:=by omega
 have q:¬ Td ≥ c:=by omega
 have r:¬ Ce ≥ c:=by omega
 have s:¬ ∀ (i:Nat) (x:i<2),c≤([⟨a0,v0,Td⟩,⟨pa,v1,Ce⟩]:List MapEntry)[i].born:=fun h=>by have:=h 0 (by decide);simp at this;omega
 have t:¬ Ce=Td:=by omega
 have u:¬ Td=Ce:=by omega
 obtain ⟨v,y⟩:=Tv w b (.mapIter (some m) c ⟨[Ce,Td]⟩ c) o;obtain ⟨sa,f⟩:=Ei fr dst (.tuple ⟨[.bool true,a0,v0]⟩);refine Th (w':={ w with heap:=w.heap.setIfInBounds b (.mapIter (some m) c ⟨[Ce,Td]⟩ c) }) ?_ f (l _ _ rfl (a.put (b:=b) Ua rfl rfl rfl y v) sa f);simp [execOp,j ds,Instr.next,getObj,setObj,Sem.run,e,n,Result.andThen,p,q,r,t,u,s,choose,Question.forced]
theorem nC {x:Operand}{b m c d k Td Ce p q:Nat}{a0 v0 pa v1:Value}(e:Ya fr x (.pointer (some ⟨b,0,none⟩))) (a:ha μ w0 w rs) (Ua:Pb rs d (.Xk b m c [p,q] c)) (hm:Pb rs k (.map m [⟨a0,v0,Td⟩,⟨pa,v1,Ce⟩] c)) (u:Td<Ce) (v:Ce<c) (f:p=Td∧q=Ce∨p=Ce∧q=Td)
  (Na:Xe fr dst (.tuple ⟨[.bool false]⟩) sa) (h:K sa ds w) :
  Gd P (Oper.mk dst (.next x false) ty pos after g) fr ds w K Q:=by
 have j:w.heap[b]?=some (.mapIter (some m) c ⟨[p,q]⟩ c):=a.get Ua;have l:w.heap[m]?=some (.map ⟨[⟨a0,v0,Td⟩,⟨pa,v1,Ce⟩]⟩ c):=a.get hm;have n:¬ Td ≥ c:=by omega
 have o:¬ Ce ≥ c:=by omega
 have r:¬ ∀ (i:Nat) (x:i<2),c≤([⟨a0,v0,Td⟩,⟨pa,v1,Ce⟩]:List MapEntry)[i].born:=fun h=>by have:=h 0 (by decide);simp at this;omega
 have s:¬ Ce=Td:=by omega
 have t:¬ Td=Ce:=by omega
 refine Th (w':=w) ?_ Na h;rcases f with ⟨rfl,rfl⟩ | ⟨rfl,rfl⟩<;>simp [execOp,e ds,Instr.next,getObj,setObj,Sem.run,j,l,Result.andThen,n,o,s,t,r,choose,Question.forced]
theorem zw {x:Operand}{b m c d k Td Ce:Nat}{a0 v0 pa v1:Value}{seen:List Nat}{e:MapEntry}(f:Ya fr x (.pointer (some ⟨b,0,none⟩))) (a:ha μ w0 w rs) (Ua:Pb rs d (.Xk b m c seen c)) (hm:Pb rs k (.map m [⟨a0,v0,Td⟩,⟨pa,v1,Ce⟩] c)) (p:Td<Ce)
  (hs:seen.getLast?=some e.born) (he:e=⟨a0,v0,Td⟩∨e=⟨pa,v1,Ce⟩) (Na:Xe fr dst (.tuple ⟨[e.key,e.val]⟩) sa) (h:K sa ds w) :
  Gd P (Oper.mk dst (.entry x) ty pos after g) fr ds w K Q:=by
 have i:w.heap[b]?=some (.mapIter (some m) c ⟨seen⟩ c):=a.get Ua;have j:w.heap[m]?=some (.map ⟨[⟨a0,v0,Td⟩,⟨pa,v1,Ce⟩]⟩ c):=a.get hm;have l:¬ Ce=Td:=by omega
 have n:¬ Td=Ce:=by omega
 have o:(⟨seen⟩:Array Nat).back?=some e.born:=by rw [← hs];simp [Array.back?,List.getLast?_eq_getElem?]
 refine Th (w':=w) ?_ Na h;rcases he with rfl | rfl<;>simp [execOp,f ds,Instr.entry,getObj,Sem.run,i,j,Result.andThen,o,l,n]
end
end Go.kc
namespace Go.kc
open Go.yb Go.RowKit
section
variable {P:Program}{Q:Exit→Act→World→Prop}{K:List Value→List Deferred→World→Prop}{fr sa:List Value}{ds:List Deferred}{w:World}
variable {dst:Option Tmp}{ty:TypeId}{pos:String}{after:Array Edge}{g:Option (Nat×Bool)}
structure oC (P:Program) (f:FuncId) (args:List Value) (w:World) (R:Value→World→Prop):Prop where
 out:CallsD P f ⟨args⟩ .returning w fun e a w'=>a=.returning∧okV R e w'
theorem bL {fn:Func}{R a:Value→World→Prop}{k:FuncId}{cap vs:List Value}(b:Fb P k) (hc:oC P k (vs++cap) w a) (h:∀ v w',a v w'→Pr P fn R .ret (F fr ds) w') :
  Pr P fn R .ret (F fr (⟨.fn (.func k) ⟨cap⟩,⟨vs⟩⟩::ds)) w:=by
 refine ⟨by simp,.func k,⟨cap⟩,k,⟨vs++cap⟩,rfl,?_,?_⟩
 ·have:=b.out ⟨vs++cap⟩ w;simp [invoke,this]
 ·refine hc.out.mono fun e d w' he=>?_;obtain ⟨rfl,he⟩:=he;cases e with
  | returned v=>exact h v w' he
  | panicked c=>exact he.elim
  | outgrown=>exact he.elim
theorem tJ {P:Program}{T:TypeId}{ms:Array (String×TypeId)}{v:Value}{b:Bool}(hu:P.underlying T=some (.interface ms)) (Wa:(v=.nilIface∧b=true)∨((∃ a c,v=.iface a c)∧b=false)):Nn P 1 T v .nilIface b:=⟨fun d w Na=>by
 cases d with
 | zero=>omega
 | succ d=>rcases Wa with ⟨rfl,rfl⟩ | ⟨⟨a,c,rfl⟩,rfl⟩ <;> simp [Op.equalIn,run_underlying hu]⟩
theorem uJ {x:Operand}{t Lb:TypeId}{v:Value}{b:Bool}{ms:Array (String×TypeId)}(hu:P.underlying t=some (.interface ms)) (d:Ya fr x v) (Wa:(v=.nilIface∧b=true)∨((∃ a c,v=.iface a c)∧b=false)) (e:Xe fr dst (.bool b) sa) (k:K sa ds w) :
  Gd P (Oper.mk dst (.binOp .eql t x (.const .nilIface) Lb) ty pos after g) fr ds w K Q:=by
 refine va ⟨fun ds w=>?_⟩ e k;have f:=d ds;have h:(F fr ds).eval (.const .nilIface)=.nilIface:=rfl;have i:=(tJ hu Wa).out Op.maxDepth w (by decide);rcases Wa with ⟨rfl,rfl⟩ | ⟨⟨a,c,rfl⟩,rfl⟩<;>simp [execOp,f,h,eqGuard,binOp,Op.equal,i]
end
end Go.kc
namespace Go.kc
open Go.yb Go.RowKit
def oM (agg:Bool) (cs:List Value):Value:=if agg then .agg ⟨cs⟩ else cs.headD undef
structure um (P:Program) (E:M) (K:Nat) (e:List Value){α:Type}[Ha α] (agg:Bool) (f:α→Option Bool):Prop where
 bs:Fb P K
 call:∀ {a:M}{w0 c:World}{rs:List kb}{x:α}{b:Bool}{cs:List Value},da E a→Ha.cs a cs x→f x=some b→ha a w0 c rs→sb P K ([oM agg cs]++e) c (fun v w'=>∃ d,v=.bool b∧da a d∧ha d w0 w' rs)
theorem um.up {P:Program}{μ I:M}{K:Nat}{a:List Value}{α:Type}[Ha α]{agg:Bool}{b:α→Option Bool}(h:um P μ K a agg b) (l:da μ I):um P I K a agg b:=⟨h.bs,fun c=>h.call (l.t c)⟩
end Go.kc
namespace Go.kc
open Go.yb Go.RowKit
section
variable {P : Program}{Q : Exit → Act → World → Prop}{K : List Value → List Deferred → World → Prop}{fr sa : List Value}{ds : List Deferred}{w w' : World}
variable {dst : Option Tmp}{ty : TypeId}{pos : String}{after : Array Edge}{g : Option (Nat × Bool)}
variable {w0 : World}{rs rs' : List kb}{μ I : M}
variable {T : TypeId}{d : TypeDesc}{Bf : Bool}{sd : List Value}{n m : Nat}
theorem _root_.Go.yb.Sep.newRow {S Ad : Nat → Prop}{A : World → Prop}{v : Value}{sz k : Nat}{xs : List Value}(a : Sep S Ad w0 w rs A) (c : Grow w w') (f : Row w' v T sz k xs) (d : ∀ b, v.ownBlock = some b → w.heap.size ≤ b) :
    Sep S Ad w0 w' (.row v T sz k xs :: rs) A where
  keeps := a.keeps.trans c.keeps
  all r g := by
    rcases List.mem_cons.1 g with rfl | h
    · exact f
    · exact (a.grow c).all r h
  ki := by
    cases Wa : v.ownBlock with
    | none => simp only [blocks, List.filterMap_cons, kb.block, Wa]; exact a.ki
    | some b =>
      simp only [blocks, List.filterMap_cons, kb.block, Wa, List.nodup_cons];exact ⟨fun hm => by have := a.lt hm;have := d b Wa;omega, a.ki⟩
  new b hm := by
    cases Wa : v.ownBlock with
    | none => simp only [blocks, List.filterMap_cons, kb.block, Wa] at hm; exact a.new b hm
    | some jg =>
      simp only [blocks, List.filterMap_cons, kb.block, Wa, List.mem_cons] at hm;rcases hm with rfl | hm
      · exact .inl (Nat.le_trans a.keeps.size (d _ Wa))
      · exact a.new b hm
  Gi := fun i j l => a.Gi i (Nat.le_trans c.size j) fun k e hs => (l k (Nat.lt_of_lt_of_le e c.size) ⟨hs.1, fun hm => by
    cases Wa : v.ownBlock with
    | none => simp only [blocks, List.filterMap_cons, kb.block, Wa] at hm; exact hs.2 hm
    | some jg =>
      simp only [blocks, List.filterMap_cons, kb.block, Wa, List.mem_cons] at hm;rcases hm with rfl | hm
      · have := d _ Wa;omega
      · exact hs.2 hm⟩).trans (c.ba k e trivial)
theorem ay {e : TypeId}{sz k base : Nat}{v : Value}{xs : List Value}(h : w.ownsRow base e sz v k xs) : Row w v e sz k xs ∧ ∀ b, v.ownBlock = some b → base ≤ b := by
  obtain ⟨a, d⟩ := h;rcases d with ⟨rfl, rfl⟩ | ⟨g, cap, cur, rfl, c, f, i, j, n, l⟩
  · exact ⟨⟨a, .inl ⟨rfl, rfl⟩⟩, fun b c => by simp [Value.ownBlock] at c⟩
  · exact ⟨⟨a, .inr ⟨g, 0, cap, cur, rfl, f, i, j, by omega, by simpa using l⟩⟩, fun b m => by simp [Value.ownBlock] at m;omega⟩
def al (n : Int) : Option Nat := if 0 ≤ n ∧ n ≤ 65536 then some n.toNat else none
theorem vJ {n : Int}{k : Nat}(h : al n = some k) : n = k ∧ k ≤ 65536 := by
  unfold al at h;split at h
  · rename_i hc;have := Option.some.inj h;omega
  · cases h
theorem zG (z : Value) (k : Nat) : madeCells #[z] k = (List.replicate k z).toArray := by
  apply Array.ext';simp only [madeCells, Array.toList_map, Array.toList_range];apply List.ext_getElem?;intro i;simp only [List.getElem?_map, List.getElem?_range', List.getElem?_replicate];by_cases h : i < k
  · simp [h, Nat.mod_one]
  · simp [h]
theorem Bv {x y : Operand}{e : TypeId}{z : Value}{bytes k : Nat}{c d : IntKind}{n : Int}(f : P.underlying T = some (.slice e)) (j : mc P e Bf [z] 1 bytes) (v : bytes ≤ 4096) (l : Ya fr x (.int c n)) (m : Ya fr y (.int d n)) (o : al n = some k) (p : ha μ w0 w rs)
    (h : ∀ b w', ha μ w0 w' (.row (.slice (some ⟨b, 0, none⟩) k k) e 1 k (List.replicate k z):: rs) → bh fr dst (.slice (some ⟨b, 0, none⟩) k k) fun sa => K sa ds w') :
    Gd P (Oper.mk dst (.makeSlice T x y) ty pos after g) fr ds w K Q := by
  obtain ⟨rfl, q⟩ := vJ o;obtain ⟨i, r, Ua, s, t, u, A⟩ := j.inf;have hm : i.bytes * k ≤ 4096 * 65536 := Nat.mul_le_mul (by omega) q;have a := run_make (P := P) w T e i r f Ua s c d k k (by omega) (Int.le_refl _) (by rw [← Int.natCast_mul];omega) (by omega);simp only [Int.toNat_natCast, u, Nat.mul_one, t] at a;rw [zG] at a;obtain ⟨sa, Na⟩ := Ei fr dst (.slice (some ⟨w.heap.size, 0, none⟩) k k);refine Th (w' := w.alloc (.cells (List.replicate k z).toArray e)) ?_ Na (h _ _ (p.alloc rfl ⟨by simp, .inr ⟨_, 0, _, _, rfl, heap_alloc_new w _, Nat.le_refl _, by simp only [maxLen];omega, by simp, by simp⟩⟩) sa Na);simp only [execOp, l ds, m ds, Sem.run_bind, a, Result.andThen_ok, Sem.run_pure]
theorem Yt {α : Type}[Ha α]{z : Value}{x : α}(h : ∀ μ : M, Ha.cs μ [z] x) : ∀ k, na μ (List.replicate k z) (List.replicate k x)
  | 0 => rfl
  | k + 1 => ⟨[z], _, rfl, h μ, Yt h k⟩
theorem cL {t e : TypeId}{v : Value}{a : Option Addr}{k c : Nat}(hu : P.underlying t = some (.slice e)) : Nn P 1 t (.slice a k c) (.slice none 0 0) a.isNone := ⟨fun d w Na => by
  cases d with
  | zero => omega
  | succ d => cases a <;> simp [Op.equalIn, run_underlying hu]⟩
theorem PH {x : Operand}{t Lb e : TypeId}{a : Option Addr}{k c : Nat}(hu : P.underlying t = some (.slice e)) (b : Ya fr x (.slice a k c)) (d : Xe fr dst (.bool a.isNone) sa) (h : K sa ds w) :
    Gd P (Oper.mk dst (.binOp .eql t x (.const (.slice none 0 0)) Lb) ty pos after g) fr ds w K Q := by
  refine va ⟨fun ds w => ?_⟩ d h;have f := b ds;have i : (F fr ds).eval (.const (.slice none 0 0)) = .slice none 0 0 := rfl;have j := (cL (v := .nilIface) (a := a) (k := k) (c := c) hu).out Op.maxDepth w (by decide);simp [execOp, f, i, eqGuard, binOp, Op.equal, j]
def small {α : Type}(l : List α) : Option Unit := if l.length ≤ 65536 then some () else none
theorem Uv {α : Type}{l : List α}{u : Unit}(h : small l = some u) : l.length ≤ 65536 := by
  unfold small at h;split at h
  · assumption
  · cases h
theorem na.Sz {α : Type}[Ha α] : ∀ {l : List α}{cells : List Value}(i : Nat), na μ cells l → na μ (cells.take (i * Ha.sz α)) (l.take i)
  | [], cells, i, h => by rw [na] at h; subst h; simp [na]
  | x :: l, cells, 0, h => by simp [na]
  | x :: l, cells, i + 1, h => by
    rw [na] at h;obtain ⟨cs, t, rfl, a, b⟩ := h;rw [List.take_succ_cons, na];refine ⟨cs, t.take (i * Ha.sz α), ?_, a, na.Sz i b⟩;have e : (i + 1) * Ha.sz α = cs.length + i * Ha.sz α := by rw [Nat.add_mul, Ha.Dg a];omega
    rw [e, List.take_append];simp [List.take_of_length_le (show cs.length ≤ cs.length + i * Ha.sz α by omega)]
theorem Row.MD {α : Type}[Ha α]{v : Value}{cells : List Value}{l b : List α}{j : Int}(h : Row w v T (Ha.sz α) l.length cells) (hm : na μ cells l) (g : cut l 0 j = some b) :
    ∃ a c, iq v (Ha.sz α) none (some j) a ∧ a.ownBlock = v.ownBlock ∧ (∀ w T, Row w v T (Ha.sz α) l.length cells → Row w a T (Ha.sz α) b.length c) ∧ na μ c b := by
  obtain ⟨⟨n, d, e⟩, rfl⟩ := Ar g;obtain ⟨a, qa, f, i⟩ := Row.sD h d e;refine ⟨a, cells.take (j.toNat * Ha.sz α), qa, f, fun w T k => ?_, by simpa using hm.Sz j.toNat⟩;have := i w T k;have m : ((l.take j.toNat).drop (0 : Int).toNat).length = j.toNat := by simp;omega
  rw [m];exact this
theorem QH {recv : Operand}{xs : List Operand}{tys : Array TypeId}{name : String}{k : FuncId}{t : TypeId}{a : Value}{vs : List Value}(hm : ∀ w, (method (P.types.size + Made.depth) t a name).run P w = .ok (k, a) w) (b : Fb P k) (c : Ya fr recv (.iface t a)) (hs : rl fr xs vs) :
    (execOp (F fr ds).eval (Oper.mk dst (.call { callee := .invoke recv name, args := ⟨xs⟩, argTypes := tys }) ty pos after g)).run P w = .ok (.enter k ⟨a :: vs⟩) w := by
  have d := c ds;have e := hs ds;have f := b.out ⟨a :: vs⟩ w;have h := hm w;simp [execOp, resolve, d, invoke, callMethod, e, f, h]
theorem Aw {recv : Operand}{xs : List Operand}{tys : Array TypeId}{name : String}{k : FuncId}{t : TypeId}{a : Value}{vs : List Value}{R : Value → World → Prop}(hm : ∀ w, (method (P.types.size + Made.depth) t a name).run P w = .ok (k, a) w) (b : Fb P k) (c : Ya fr recv (.iface t a)) (hs : rl fr xs vs)
    (hc : sb P k (a :: vs) w R) (h : ∀ v w', R v w' → bh fr dst v fun sa => K sa ds w') : Gd P (Oper.mk dst (.call { callee := .invoke recv name, args := ⟨xs⟩, argTypes := tys }) ty pos after g) fr ds w K Q :=
  pw (args := a :: vs) (QH hm b c hs) hc h
end
end Go.kc
namespace Go.kc
open Go.yb Go.RowKit
section
variable {P:Program}{Q:Exit→Act→World→Prop}{K:List Value→List Deferred→World→Prop}{fr sa:List Value}{ds:List Deferred}{w w':World}
variable {dst:Option Tmp}{ty:TypeId}{pos:String}{after:Array Edge}{g:Option (Nat×Bool)}
variable {w0:World}{rs rs':List kb}{μ I:M}
variable {T:TypeId}{d:TypeDesc}{Bf:Bool}{sd:List Value}{n m:Nat}
def Xm (a b:Int):Option Int:=if b=0 then none else some (a.tmod b)
theorem Ao {a b c:Int}(h:Xm a b=some c):b≠0∧a.tmod b=c:=by
 unfold Xm at h;split at h
 ·cases h
 ·rename_i d;exact ⟨d,Option.some.inj h⟩
theorem oj.uniq {v:Value}{sz:Nat}{i:Int}{b o jg o':Nat}(h:oj v sz i b o) (a:oj v sz i jg o'):b=jg∧o=o':=by
 obtain ⟨d,n,c,rfl,_,_,rfl⟩:=h.out;obtain ⟨e,Ce,c1,he,_,_,rfl⟩:=a.out;cases he;exact ⟨rfl,rfl⟩
theorem SB {α:Type}{w:World}{v:Value}{T sz i:Nat}{x:α}{l:List α}{cs:List Value}(h:Row w v T sz (l.set i x).length cs):Row w v T sz l.length cs:=by
 rwa [List.length_set] at h
theorem AG {α:Type}{l:List α}{k:Nat}{x:α}(h:l[k]?=some x):l.set k x=l:=by
 apply List.ext_getElem?;intro i;rw [List.getElem?_set];split
 ·rename_i e;subst e;rw [if_pos (List.getElem?_eq_some_iff.1 h).1,h]
 ·rfl
def lq {α:Type}(l ys:List α):List α:=ys.take l.length++l.drop ys.length
theorem RH {α:Type}(l ys:List α):(lq l ys).length=l.length:=by simp [lq];omega
theorem wJ {α:Type}[Ha α] (c:Ha.sz α=1){l ys:List α}{cells news:List Value}(h:na μ cells l) (k:na μ news ys):na μ (news.take l.length++cells.drop ys.length) (lq l ys):=by
 have a:=k.Sz l.length;have b:=h.drop ys.length;rw [c,Nat.mul_one] at a b;exact na.cat b a
theorem xJ {α:Type}[Ha α]{t Lb:TypeId}{x y:Operand}{v:Value}{bytes k c:Nat}{a:Option Addr}{cells news:List Value}{l ys:List α}(A:Ha.sz α=1) (L:P.underlying t=some (.slice T)) (R:mc P T Bf sd 1 bytes)
  (S:Ya fr x v) (U:Ya fr y (.slice a ys.length c)) (m:ha μ w0 w rs) (B:Pb rs k (.row v T 1 l.length cells)) (p:na μ cells l) (hm:na μ news ys) (W:ys≠[]→∃ b o,a=some ⟨b,o,none⟩∧Ec μ b o news)
  (h:∀ n w' rs',oc rs k (.row v T 1 l.length (news.take l.length++cells.drop ys.length)) rs'→ha μ w0 w' rs'→bh fr dst (.int .i64 n) fun sa=>K sa ds w') :
  Gd P (Oper.mk dst (.call { callee:=.builtin .copy,args:=#[x,y],argTypes:=#[t,Lb] }) ty pos after g) fr ds w K Q:=by
 have M:Row w v T 1 l.length cells:=m.get B;have q:news.length=ys.length:=by have:=hm.len;rw [A] at this;omega
 have N:(P.info? T).map (·.size)=some 1:=by
  obtain ⟨i,z,Ua,-,-,X,-⟩:=R.inf;rw [Ua];simp [X]
 have run:∀ {r:Int}{w'},(Builtin.copy_ #[t,Lb] ty #[v,.slice a ys.length c]).run P w=.ok (.int .i64 r) w' →
   (execOp (F fr ds).eval (Oper.mk dst (.call { callee:=.builtin .copy,args:=#[x,y],argTypes:=#[t,Lb] }) ty pos after g)).run P w=.ok (.value (.int .i64 r)) w':=fun p=>by
  have Y:=S ds;have Z:=U ds;simp [execOp,resolve,invoke,builtin,Y,Z,p]
 by_cases d:ys.length=0∨l.length=0
 ·obtain ⟨sa,Na⟩:=Ei fr dst (.int .i64 (0:Nat));have gc:Nat.min ys.length l.length=0:=by rcases d with d | d<;>simp [d,Nat.min_def]<;>omega
  have lc:news.take l.length++cells.drop ys.length=cells:=by
   have hc:=p.len;rw [A] at hc;rcases d with d | d
   ·rw [d] at q ⊢;simp [List.eq_nil_of_length_eq_zero q]
   ·simp [d,List.eq_nil_of_length_eq_zero (show cells.length=0 by omega)]
  obtain ⟨C,D,G,rfl,rc⟩:∃ C D G,v=.slice C D G∧D=l.length:=by
   rcases M.2 with ⟨rfl,H⟩ | ⟨g,o,cap,cur,rfl,-⟩
   ·exact ⟨none,0,0,rfl,H.symm⟩
   ·exact ⟨_,_,_,rfl,rfl⟩
  subst rc;refine Th (w':=w) (run (r:=((0:Nat):Int)) ?_) Na (h _ w rs ?_ m sa Na)
  ·have:=run_copy_none (P:=P) w t Lb ty T C a l.length G ys.length c L N gc;simpa [goInt] using this
  ·rw [lc];unfold oc Pb at *;exact AG B
 ·have fd:ys≠[]:=fun e=>d (.inl (by simp [e]));obtain ⟨Fe,Pd,rfl,id⟩:=W fd;have md:=p.len;rw [A,Nat.mul_one] at md;rcases M.2 with ⟨rfl,H⟩ | ⟨f,o,cap,cur,rfl,O,rd,td,ce,wd⟩
  ·exact absurd (.inr H) d
  ·obtain ⟨sa,Na⟩:=Ei fr dst (.int .i64 ((news.take l.length).length:Nat));have ge:(news.take l.length).length≤l.length:=by simp;omega
   have Fd:ji w f T cur.toList:=O;have Id:=hm.pg;have be:=run_copy_row (P:=P) w t Lb ty T f o l.length cap ⟨Fe,Pd,none⟩ ys.length c cur T (news.take l.length) L N O (by simp [q,Nat.min_comm]) (fun j u s=>by
    rw [List.getElem?_take] at s;split at s
    ·have:=id w m.a j u s;rwa [Ij]
    ·cases s) (by omega) (fun u hu=>Qv (List.all_eq_true.1 Id u (List.mem_of_mem_take hu)))
   have key:Eh (fun k=>k≠f) w (w.setRow f (cur.toList.take o++news.take l.length++cur.toList.drop (o+(news.take l.length).length)).toArray):=⟨rfl,rfl,rfl,by simp [World.setRow],fun k he hs=>setRow_other w f k _ hs⟩;refine Th (w':=w.setRow f (cur.toList.take o++news.take l.length++cur.toList.drop (o+(news.take l.length).length)).toArray) (run (r:=((news.take l.length).length:Nat)) (by rw [be];rfl)) Na (h _ _ _ rfl (m.put (b:=f) B rfl rfl rfl ?_ key) sa Na);refine ⟨by simp;omega,.inr ⟨f,o,cap,_,rfl,setRow_heap w f ⟨cur.toList⟩ _ T (0,0) Fd,rd,td,?_,?_⟩⟩
   ·simp;omega
   ·have:=TA cur.toList (news.take l.length) o 0 (l.length*1) (by omega) (by simp;omega);simp only [Nat.add_zero,List.take_zero,List.nil_append,Nat.zero_add] at this;rw [List.toList_toArray,this,wd];congr 1;by_cases hle:ys.length≤l.length
    ·simp [q,Nat.min_eq_right hle]
    ·rw [List.drop_eq_nil_of_le (by simp;omega),List.drop_eq_nil_of_le (by omega)]
theorem yJ {x y:Operand}{t Lb:TypeId}{d:TypeDesc}{a b:Int}(hu:P.underlying t=some d) (c:Ya fr x (.int .i64 a)) (f:Ya fr y (.int .i64 b)):Ke P (Oper.mk dst (.call { callee:=.builtin .min,args:=#[x,y],argTypes:=#[t,Lb] }) ty pos after g) fr (.int .i64 (min a b)):=⟨fun ds w=>by
 have i:=c ds;have j:=f ds;have e:min a b=if b<a then b else a:=by simp only [Int.min_def];split<;>split<;>omega
 rw [e];by_cases h:b<a<;>simp [execOp,resolve,invoke,builtin,i,j,Builtin.min_,Builtin.min2,h]⟩
theorem zJ {x y:Operand}{t Lb:TypeId}{d:TypeDesc}{a b:Int}(hu:P.underlying t=some d) (c:Ya fr x (.int .i64 a)) (f:Ya fr y (.int .i64 b)):Ke P (Oper.mk dst (.call { callee:=.builtin .max,args:=#[x,y],argTypes:=#[t,Lb] }) ty pos after g) fr (.int .i64 (max a b)):=⟨fun ds w=>by
 have i:=c ds;have j:=f ds;have e:max a b=if a<b then b else a:=by simp only [Int.max_def];split<;>split<;>omega
 rw [e];by_cases h:a<b<;>simp [execOp,resolve,invoke,builtin,i,j,Builtin.max_,Builtin.max2,h]⟩
theorem dL {t:TypeId}{gd rs:Array TypeId}{a:Bool}(hu:P.underlying t=some (.func gd rs a)):Nn P 1 t .nilFunc .nilFunc true:=⟨fun d w Na=>by
 cases d with
 | zero=>omega
 | succ d=>simp [Op.equalIn,run_underlying hu]⟩
theorem eL {t e:TypeId}(hu:P.underlying t=some (.pointer e)):Nn P 1 t (.pointer none) (.pointer none) true:=⟨fun d w Na=>by
 cases d with
 | zero=>omega
 | succ d=>simp [Op.equalIn,run_underlying hu]⟩
theorem HF {x:Operand}{t Lb:TypeId}{gd rs:Array TypeId}{a:Bool}(hu:P.underlying t=some (.func gd rs a)) (b:Ya fr x .nilFunc):Ke P (Oper.mk dst (.binOp .neq t x (.const .nilFunc) Lb) ty pos after g) fr (.bool false):=⟨fun ds w=>by
 have c:=b ds;have d:(F fr ds).eval (.const .nilFunc)=.nilFunc:=rfl;have e:=(dL hu).out Op.maxDepth w (by decide);simp [execOp,c,d,eqGuard,binOp,Op.equal,e]⟩
theorem IF {x:Operand}{t Lb e:TypeId}(hu:P.underlying t=some (.pointer e)) (a:Ya fr x (.pointer none)):Ke P (Oper.mk dst (.binOp .eql t x (.const (.pointer none)) Lb) ty pos after g) fr (.bool true):=⟨fun ds w=>by
 have b:=a ds;have c:(F fr ds).eval (.const (.pointer none))=.pointer none:=rfl;have d:=(eL hu).out Op.maxDepth w (by decide);simp [execOp,b,c,eqGuard,binOp,Op.equal,d]⟩
theorem JF {x:Operand}{t Lb e:TypeId}(hu:P.underlying t=some (.pointer e)) (a:Ya fr x (.pointer none)) (b:Xe fr dst (.bool true) sa) (h:K sa ds w):Gd P (Oper.mk dst (.binOp .eql t x (.const (.pointer none)) Lb) ty pos after g) fr ds w K Q:=va (IF hu a) b h
end
end Go.kc
namespace Go.kc
open Go.yb Go.RowKit
instance:Ha UInt8 where
 sz:=1
 pos:=by decide
 cs _ l x:=l=[.int .u8 x.toNat]
 Dg h:=by rw [h];rfl
 up _ h:=h
 pg h:=by rw [h];rfl
def rA (l:List UInt8):Option Int:=if l.length≤9223372036854775806 then (match Lib.parseIntB 64 l with | .ok v=>some v | _=>none) else none
def Tz (l sub:List UInt8):Option Bool:=if l.length<4294967281 then some (Lib.contains l sub) else none
end Go.kc
namespace Go.kc
open Go.yb Go.RowKit
section
variable {μ Ui:M}{w0 w w':World}{rs:List kb}{T:TypeId}
def js (w:World) (Ui:M):Prop:=∀ w',Ui w'→w.heap.size≤w'.heap.size∧∀ k,k<w.heap.size→w'.heap[k]?=w.heap[k]?
theorem _root_.Go.yb.Sep.borrow (h:ha μ w0 w rs):∃ Ui,da μ Ui∧ha Ui w w []∧js w Ui:=by
 refine ⟨fun w'=>μ w'∧(w.heap.size≤w'.heap.size∧∀ k,k<w.heap.size→w'.heap[k]?=w.heap[k]?),fun _ hw=>hw.1,Sep.start w _ _ ?_,fun _ hw=>hw.2⟩;intro w' b c;exact ⟨h.Gi w' b fun k a _=>c k a trivial,b,fun k a=>c k a trivial⟩
theorem _root_.Go.yb.Sep.back {c:M}(h:ha μ w0 w rs) (d:js w Ui) (hle:da Ui c) (b:ha c w w' []):ha μ w0 w' rs :=
 h.grow ⟨b.keeps.os,b.keeps.tape,b.keeps.output,b.keeps.size,fun k e _=>(d w' (hle _ b.a)).2 k e⟩
theorem js.holds {r:kb}(a:js w Ui) (h:r.holds w) (hw:Ui w'):r.holds w':=holds_of h fun b c=>(a w' hw).2 b (PA h c)
theorem _root_.Go.yb.Row.shape {v:Value}{sz n:Nat}{xs:List Value}(h:Row w v T sz n xs):∃ a c,v=.slice a n c:=by
 rcases h.2 with ⟨rfl,rfl⟩ | ⟨g,o,cap,cur,rfl,-⟩
 ·exact ⟨_,_,rfl⟩
 ·exact ⟨_,_,rfl⟩
theorem _root_.Go.yb.Row.rd {α:Type}[Ha α]{a:Option Addr}{c:Nat}{cells:List Value}{l:List α}(k:js w Ui) (hle:da μ Ui) (h:Row w (.slice a l.length c) T (Ha.sz α) l.length cells) (m:na μ cells l):Ba Ui a c l:=by
 have n:∀ w',Ui w'→Row w' (.slice a l.length c) T (Ha.sz α) l.length cells:=fun w' hw=>k.holds (r:=.row (.slice a l.length c) T (Ha.sz α) l.length cells) h hw;rcases h.2 with ⟨e,p⟩ | ⟨g,o,cap,cur,e,A,q,s,B,C⟩
 ·obtain rfl:=List.eq_nil_of_length_eq_zero p;obtain ⟨rfl,-,rfl⟩:=Value.slice.inj e;exact Ba.nil
 ·obtain ⟨rfl,-,rfl⟩:=Value.slice.inj e;refine ⟨q,s,.inr ⟨g,o,rfl,fun i=>(cells.drop (i*Ha.sz α)).take (Ha.sz α),fun i x f=>⟨?_,Ha.up hle (m.get f)⟩⟩⟩;intro t v j u d;have y:0<l.length:=by have:=(List.getElem?_eq_some_iff.1 f).1;omega
  obtain ⟨b,o',c,Wa,hc⟩:=(n t v).Bn y;simp at Wa;obtain ⟨⟨rfl,rfl⟩,rfl⟩:=Wa;have z:j<Ha.sz α:=by
   have:=(List.getElem?_eq_some_iff.1 d).1;simp at this;omega
  rw [List.getElem?_take_of_lt z,List.getElem?_drop] at d;have:=hc _ u d;rw [← Nat.add_assoc] at this;exact this
theorem _root_.Go.yb.ji.rd {b:Nat}{cells:List Value}(a:js w Ui) (h:ji w b T cells):Ec Ui b 0 cells:=fun w' hw=>ji.cells (a.holds (r:=.ba b T cells) h hw)
def mx {α:Type}(l:List α) (i j:Int):Option (List α):=if 0≤i∧i≤j∧j≤l.length then some (l.take i.toNat++l.drop j.toNat) else none
theorem del_eq {α:Type}{l a:List α}{i j:Int}(h:mx l i j=some a):(0≤i∧i≤j∧j≤l.length)∧a=l.take i.toNat++l.drop j.toNat:=by
 unfold mx at h;split at h
 ·rename_i c;exact ⟨c,(Option.some.inj h).symm⟩
 ·cases h
theorem XE {w:World}{g o:Nat}{cur:Array Value}{T:TypeId}(a:w.heap[g]?=some (.cells cur T (0,0))):w.frozen? ⟨g,o,none⟩=false:=by
 simp [World.frozen?,a]
theorem cE {α:Type}[Inhabited α] (enc:α→Value) (off:Nat) (d:Array α) (c:Array Value) (k:Nat):(Go.Sort.putCells enc off d c)[k]?=(c[k]?).map fun x=>if off≤k∧k<off+d.size then enc d[k - off]! else x:=by
 unfold Go.Sort.putCells;rw [Array.getElem?_mapIdx]
theorem SH {w:World}{g o cap:Nat}{l:List (List UInt8)}{T:TypeId}{i j:Nat}{q:Nat}(h:Row w (.slice (some ⟨g,o,none⟩) l.length cap) T 1 l.length (l.map S)) (m:i≤j) (n:j≤l.length) :
  Row (Go.Sort.putRow (fun x:List UInt8=>S x) (Go.Sort.ahead w q) g o (l.take i++l.drop j++List.replicate (j - i) []).toArray) (.slice (some ⟨g,o,none⟩) (l.take i++l.drop j).length cap) T 1 (l.take i++l.drop j).length ((l.take i++l.drop j).map S) ∧
  Eh (fun b=>b≠g) w (Go.Sort.putRow (fun x:List UInt8=>S x) (Go.Sort.ahead w q) g o (l.take i++l.drop j++List.replicate (j - i) []).toArray):=by
 rcases h.2 with ⟨e,-⟩ | ⟨p,o',r,cur,e,a,s,d,t,u⟩
 ·cases e
 ·cases e;have len:(l.take i++l.drop j).length=l.length - (j - i):=by simp;omega
  constructor
  ·refine ⟨by simp,.inr ⟨g,o,cap,Go.Sort.putCells (fun x:List UInt8=>S x) o (l.take i++l.drop j++List.replicate (j - i) []).toArray cur,rfl,?_,by omega,d,?_,?_⟩⟩
   ·simp only [Go.Sort.putRow,Go.Sort.mapBlock,Go.Sort.ahead,Array.getElem?_modify];rw [if_pos trivial,a];rfl
   ·simp [Go.Sort.putCells];omega
   ·apply List.ext_getElem?;intro k;rw [List.getElem?_take,Nat.mul_one];by_cases c:k<(l.take i++l.drop j).length
    ·rw [if_pos c,List.getElem?_drop,Array.getElem?_toList,cE];have hs:o+k<cur.size:=by omega
     rw [Array.getElem?_eq_getElem hs];simp only [Option.map_some];have c2:k<(l.take i++l.drop j++List.replicate (j - i) ([]:List UInt8)).length:=by rw [List.length_append];omega
     rw [if_pos ⟨by omega,by simp only [List.size_toArray];omega⟩,List.getElem?_map,List.getElem?_eq_getElem c];have e:o+k - o=k:=by omega
     rw [e];simp only [Option.map_some];congr 2;rw [getElem!_pos _ k (by simpa using c2)];simp only [List.getElem_toArray];rw [List.getElem_append_left c]
    ·rw [if_neg c,List.getElem?_eq_none (by simpa using c)]
  ·refine ⟨rfl,rfl,rfl,by simp [Go.Sort.putRow,Go.Sort.mapBlock,Go.Sort.ahead],fun k v f=>?_⟩;simp only [Go.Sort.putRow,Go.Sort.mapBlock,Go.Sort.ahead,Array.getElem?_modify];rw [if_neg fun h=>f h.symm]
end
section
variable {P:Program}{Q:Exit→Act→World→Prop}{K:List Value→List Deferred→World→Prop}{fr sa:List Value}{ds:List Deferred}{w w':World}
variable {dst:Option Tmp}{ty:TypeId}{pos:String}{after:Array Edge}{g:Option (Nat×Bool)}{T:TypeId}{Bf:Bool}{sd:List Value}{rs rs':List kb}{μ:M}{w0:World}
end
end Go.kc
namespace Go.kc
open Go.yb
def sA (a b : Int) : Int := IntKind.wrap .i64 ((BitVec.ofInt 64 a &&& BitVec.ofInt 64 b).toNat : Int)
def zA (a b : Int) : Int := IntKind.wrap .i64 ((BitVec.ofInt 64 a ||| BitVec.ofInt 64 b).toNat : Int)
section
variable {P : Program}{Q : Exit → Act → World → Prop}{K : List Value → List Deferred → World → Prop}{fr sa : List Value}{ds : List Deferred}{w : World}{dst : Option Tmp}{ty : TypeId}{pos : String}{after : Array Edge}{g : Option (Nat × Bool)}
theorem AJ {x y : Operand}{t Lb : TypeId}{a b : Int}(c : Ya fr x (.int .i64 a)) (d : Ya fr y (.int .i64 b)) : Ke P (Oper.mk dst (.binOp .and t x y Lb) ty pos after g) fr (.int .i64 (sA a b)):= ⟨fun ds w => by
  simp only [execOp, c ds, d ds, eqGuard, binOp, Op.intBits, IntKind.bits, Sem.run_bind, Sem.run_pure, Result.andThen_ok];simp;rfl⟩
theorem BJ {x y : Operand}{t Lb : TypeId}{a b : Int}(c : Ya fr x (.int .i64 a)) (d : Ya fr y (.int .i64 b)) (e : Xe fr dst (.int .i64 (sA a b)) sa) (f : K sa ds w) : Gd P (Oper.mk dst (.binOp .and t x y Lb) ty pos after g) fr ds w K Q := va (AJ c d) e f
theorem fL {x y : Operand}{t Lb : TypeId}{a b : Int}(c : Ya fr x (.int .i64 a)) (d : Ya fr y (.int .i64 b)) : Ke P (Oper.mk dst (.binOp .or t x y Lb) ty pos after g) fr (.int .i64 (zA a b)):= ⟨fun ds w => by
  simp only [execOp, c ds, d ds, eqGuard, binOp, Op.intBits, IntKind.bits, Sem.run_bind, Sem.run_pure, Result.andThen_ok];simp;rfl⟩
theorem gL {x y : Operand}{t Lb : TypeId}{a b : Int}(c : Ya fr x (.int .i64 a)) (d : Ya fr y (.int .i64 b)) (e : Xe fr dst (.int .i64 (zA a b)) sa) (f : K sa ds w) : Gd P (Oper.mk dst (.binOp .or t x y Lb) ty pos after g) fr ds w K Q := va (fL c d) e f
end
end Go.kc
namespace Go.kc
open Go.yb Go.RowKit
theorem Kc {α:Type}{c:Prop}[Decidable c]{y:Option α}{r:α}{G:Prop}(h:(if c then none else y)=some r) (hc:c):G:=by rw [if_pos hc] at h;cases h
theorem nh {α:Type}{c:Prop}[Decidable c]{x:Option α}{r:α}{G:Prop}(h:(if c then x else none)=some r) (hc:¬ c):G:=by rw [if_neg hc] at h;cases h
section
variable {P:Program}{Q Q':Exit→Act→World→Prop}{fr sa:List Value}{ds:List Deferred}{w:World}{ops:Array Oper}{y:Code}{id:Nat}{l:List Oper}
theorem la (h:te P y Q' fr ds w):Af P ops (Exit.then (Wn P y Q') Q) [] fr ds w:=ta (ma h)
theorem tM (h:te P y Q' fr ds w):Ai P ops (Exit.then (Wn P y Q') Q) [] fr ds w:=hJ (ma h)
theorem ea (h:Af P l.toArray (Exit.then (Wn P y Q) Q) l fr ds w):te P (.seq (.region id l.toArray false) y) Q fr ds w:=xa (Aa h)
theorem bb (h:Af P l.toArray (Exit.then (Wn P y Q') Q') l fr ds w):Af P ops (Exit.then (Wn P (.seq (.region id l.toArray false) y) Q') Q) [] fr ds w:=ta (ma (xa (Aa h)))
theorem hb {x:Code}(h:te P x (Exit.then (Wn P y Q') Q') fr ds w):Af P ops (Exit.then (Wn P (.seq x y) Q') Q) [] fr ds w:=ta (ma (xa h))
variable {R R':List Nat}{dst:Tmp}{op:Op}{ty:TypeId}{pos:String}{after:Array Edge}{v:Value}{pc:List Mon}{j d:Nat}{b jg:Bool}
theorem XD (i:Nat) (he:(decide R.Nodup && enabled ops R i && apart ops false R i,R.erase i,ops[i]?)=(true,R',some ⟨some dst,op,ty,pos,after,none⟩)) (Wa:Ke P ⟨some dst,op,ty,pos,after,none⟩ fr v) (a:oc fr dst v sa) (h:Ai P ops Q R' sa ds w) (b:di Q dst:=by first | exact fun _ _ _ _ _ h=>h | exact Bb fun _ _ _ h=>h.2 | exact Bb fun _ _ _ h=>h.2.2):Ai P ops Q R fr ds w:=YK b (congrArg (·.1) he) (congrArg (·.2.1) he) (congrArg (·.2.2) he) Wa a h
theorem YD (i:Nat) (S:List Nat) (he:(decide R.Nodup && enabled ops R i && waits ops R S i && Jw ops S R i,R.erase i,ops[i]?)=(true,R',some ⟨some dst,op,ty,pos,after,none⟩)) (Wa:yl P ⟨some dst,op,ty,pos,after,none⟩ fr w v) (a:oc fr dst v sa) (h:Ai P ops Q R' sa ds w) (b:di Q dst:=by first | exact fun _ _ _ _ _ h=>h | exact Bb fun _ _ _ h=>h.2 | exact Bb fun _ _ _ h=>h.2.2):Ai P ops Q R fr ds w:=pJ S b (congrArg (·.1) he) (congrArg (·.2.1) he) (congrArg (·.2.2) he) Wa a h
theorem je (i:Nat) (S:List Nat) (he:(decide R.Nodup && enabled ops R i && waits ops R S i && wk ops S R i && S.contains i,R.erase i,ops[i]?)=(true,R',some ⟨some dst,op,ty,pos,after,none⟩)) (Wa:Ke P ⟨some dst,op,ty,pos,after,none⟩ fr v) (a:oc fr dst v sa) (h:bf P ops Q pc R' sa ds w) (b:di Q dst:=by first | exact fun _ _ _ _ _ h=>h | exact Bb fun _ _ _ h=>h.2 | exact Bb fun _ _ _ h=>h.2.2):bf P ops Q pc R fr ds w:=pf S b (congrArg (·.1) he) (congrArg (·.2.1) he) (congrArg (·.2.2) he) Wa a h
theorem Ze (i:Nat) (S:List Nat) (he:(decide R.Nodup && enabled ops R i && waits ops R S i && wk ops S R i && S.contains i,R.erase i,ops[i]?)=(true,R',some ⟨some dst,op,ty,pos,after,some (j,b)⟩)) (a:(ops[j]?).bind (·.dst)=some d) (c:Pb fr d (.bool b)) (Wa:Ke P ⟨some dst,op,ty,pos,after,some (j,b)⟩ fr v) (e:oc fr dst v sa) (h:bf P ops Q pc R' sa ds w) (f:di Q dst:=by first | exact fun _ _ _ _ _ h=>h | exact Bb fun _ _ _ h=>h.2 | exact Bb fun _ _ _ h=>h.2.2):bf P ops Q pc R fr ds w:=yj S f (congrArg (·.1) he) (congrArg (·.2.1) he) (congrArg (·.2.2) he) a c Wa e h
theorem yd (i:Nat) (S:List Nat) (he:(decide R.Nodup && enabled ops R i && waits ops R S i && wk ops S R i && S.contains i,R.erase i,ops[i]?)=(true,R',some ⟨some dst,op,ty,pos,after,some (j,b)⟩)) (a:(ops[j]?).bind (·.dst)=some d) (c:Pb fr d (.bool jg)) (e:(jg == b)=false) (f:oc fr dst undef sa) (h:bf P ops Q pc R' sa ds w) (g:di Q dst:=by first | exact fun _ _ _ _ _ h=>h | exact Bb fun _ _ _ h=>h.2 | exact Bb fun _ _ _ h=>h.2.2):bf P ops Q pc R fr ds w:=ff S g (congrArg (·.1) he) (congrArg (·.2.1) he) (congrArg (·.2.2) he) a c e f h
theorem qj (i:Nat) (S:List Nat) (he:(decide R.Nodup && enabled ops R i && waits ops R S i && wk ops S R i && S.contains i,R.erase i,ops[i]?)=(true,R',some ⟨some dst,op,ty,pos,after,some (j,b)⟩)) (a:(ops[j]?).bind (·.dst)=some d) (c:Pb fr d undef) (e:oc fr dst undef sa) (h:bf P ops Q pc R' sa ds w) (f:di Q dst:=by first | exact fun _ _ _ _ _ h=>h | exact Bb fun _ _ _ h=>h.2 | exact Bb fun _ _ _ h=>h.2.2):bf P ops Q pc R fr ds w:=rJ S f (congrArg (·.1) he) (congrArg (·.2.1) he) (congrArg (·.2.2) he) a c e h
theorem ib (i:Nat) (S:List Nat) (he:(decide R.Nodup && enabled ops R i && waits ops R S i && wk ops S R i && S.contains i,R.erase i,ops[i]?)=(true,R',some ⟨some dst,op,ty,pos,after,none⟩)) (Wa:yl P ⟨some dst,op,ty,pos,after,none⟩ fr w v) (a:oc fr dst v sa) (h:bf P ops Q ((S,fun w'=>yl P ⟨some dst,op,ty,pos,after,none⟩ fr w' v)::pc) R' sa ds w) (b:di Q dst:=by first | exact fun _ _ _ _ _ h=>h | exact Bb fun _ _ _ h=>h.2 | exact Bb fun _ _ _ h=>h.2.2):bf P ops Q pc R fr ds w:=Ml S b (congrArg (·.1) he) (congrArg (·.2.1) he) (congrArg (·.2.2) he) Wa a h
theorem lj (i:Nat) (S:List Nat) (he:(decide R.Nodup && enabled ops R i && waits ops R S i && wk ops S R i && S.contains i,R.erase i,ops[i]?)=(true,R',some ⟨some dst,op,ty,pos,after,some (j,b)⟩)) (a:(ops[j]?).bind (·.dst)=some d) (c:Pb fr d (.bool b)) (Wa:yl P ⟨some dst,op,ty,pos,after,some (j,b)⟩ fr w v) (e:oc fr dst v sa) (h:bf P ops Q ((S,fun w'=>yl P ⟨some dst,op,ty,pos,after,some (j,b)⟩ fr w' v)::pc) R' sa ds w) (f:di Q dst:=by first | exact fun _ _ _ _ _ h=>h | exact Bb fun _ _ _ h=>h.2 | exact Bb fun _ _ _ h=>h.2.2):bf P ops Q pc R fr ds w:=Xt S f (congrArg (·.1) he) (congrArg (·.2.1) he) (congrArg (·.2.2) he) a c Wa e h
end
class tl (l:List Value) (n:Nat) (v:outParam Value):Prop where out:Pb l n v
instance {v:Value}{l:List Value}:tl (v::l) 0 v:=⟨rfl⟩
instance {a v:Value}{l:List Value}{n:Nat}[h:tl l n v]:tl (a::l) (n+1) v:=⟨h.out⟩
instance (priority:=2000){c0 c1 c2 c3 c4 c5 qd qg yh c9 v:Value}{l:List Value}{n:Nat}[h:tl l n v]:tl (c0::c1::c2::c3::c4::c5::qd::qg::yh::c9::l) (n+10) v:=⟨h.out⟩
class We (l:List Value) (n:Nat) (v:Value) (a:outParam (List Value)):Prop where out:oc l n v a
instance {a v:Value}{l:List Value}:We (a::l) 0 v (v::l):=⟨rfl⟩
instance {a v:Value}{l b:List Value}{n:Nat}[h:We l n v b]:We (a::l) (n+1) v (a::b):=⟨congrArg (a::·) h.out⟩
instance (priority:=2000){c0 c1 c2 c3 c4 c5 qd qg yh c9 v:Value}{l a:List Value}{n:Nat}[h:We l n v a]:We (c0::c1::c2::c3::c4::c5::qd::qg::yh::c9::l) (n+10) v (c0::c1::c2::c3::c4::c5::qd::qg::yh::c9::a):=⟨congrArg (c0::c1::c2::c3::c4::c5::qd::qg::yh::c9::·) h.out⟩
class Ac (fr:List Value) (x:Operand) (v:outParam Value):Prop where out:Ya fr x v
instance {fr:List Value}{n:Nat}{v:Value}[h:tl fr n v]:Ac fr (.tmp n) v:=⟨aa h.out⟩
instance {fr:List Value}{v:Value}:Ac fr (.const v) v:=⟨Fa⟩
class Oj (P:Program) (op:Op) (fr:List Value) (v:outParam Value):Prop where out:∀ dst ty pos after g,Ke P (Oper.mk dst op ty pos after g) fr v
section
variable {P:Program}{fr:List Value}{x y c:Operand}{v:Value}{t Lb:TypeId}{k:IntKind}{a b:Int}
instance [h:Ac fr x v]:Oj P (.move x) fr v:=⟨fun _ _ _ _ _=>Mg h.out⟩
instance [h:Ac fr x v]:Oj P (.assign x) fr v:=⟨fun _ _ _ _ _=>Ly h.out⟩
instance {a:Addr}[h:Ac fr x (.pointer (some a))]:Oj P (.nilCheck x) fr (.pointer (some a)):=⟨fun _ _ _ _ _=>Kh h.out⟩
instance [c:Ac fr x (.int k a)] [d:Ac fr y (.int k b)]:Oj P (.binOp .eql t x y Lb) fr (.bool (decide (a=b))):=⟨fun _ _ _ _ _=>Yw c.out d.out⟩
instance [c:Ac fr x (.int k a)] [d:Ac fr y (.int k b)]:Oj P (.binOp .neq t x y Lb) fr (.bool (decide (a≠b))):=⟨fun _ _ _ _ _=>rD c.out d.out⟩
instance [c:Ac fr x (.int k a)] [d:Ac fr y (.int k b)]:Oj P (.binOp .lss t x y Lb) fr (.bool (decide (a<b))):=⟨fun _ _ _ _ _=>du c.out d.out⟩
instance [c:Ac fr x (.int k a)] [d:Ac fr y (.int k b)]:Oj P (.binOp .leq t x y Lb) fr (.bool (decide (a≤b))):=⟨fun _ _ _ _ _=>qD c.out d.out⟩
instance [c:Ac fr x (.int k a)] [d:Ac fr y (.int k b)]:Oj P (.binOp .gtr t x y Lb) fr (.bool (decide (b<a))):=⟨fun _ _ _ _ _=>Lr c.out d.out⟩
instance [c:Ac fr x (.int k a)] [d:Ac fr y (.int k b)]:Oj P (.binOp .geq t x y Lb) fr (.bool (decide (b≤a))):=⟨fun _ _ _ _ _=>Pz c.out d.out⟩
end
section
variable {P:Program}{Q:Exit→Act→World→Prop}{fr sa:List Value}{ds:List Deferred}{w:World}{ops:Array Oper}{rest:List Oper}{d:Tmp}{op:Op}{ty:TypeId}{pos:String}{after:Array Edge}{v:Value}
theorem st [hu:Oj P op fr v] [a:We fr d v sa] (h:Af P ops Q rest sa ds w):Af P ops Q (⟨some d,op,ty,pos,after,none⟩::rest) fr ds w:=wl (va (hu.out _ _ _ _ _) (ia a.out) h)
end
class ml (fr:List Value) (xs:List Operand) (vs:outParam (List Value)):Prop where out:rl fr xs vs
instance {fr:List Value}:ml fr [] []:=⟨Hb⟩
instance {fr:List Value}{x:Operand}{v:Value}{xs:List Operand}{vs:List Value}[h:Ac fr x v] [k:ml fr xs vs]:ml fr (x::xs) (v::vs):=⟨qa h.out k.out⟩
section
variable {P:Program}{fr:List Value}{x y c:Operand}{v:Value}{t Lb T:TypeId}{b:Nat}{o off i:Nat}{vs:List Value}{q:Bool}
instance [a:Uc P T i off] [h:Ac fr x (.pointer (some ⟨b,o,none⟩))]:Oj P (.fieldAddr T x i) fr (.pointer (some ⟨b,o+off,none⟩)):=⟨fun _ _ _ _ _=>Rg a h.out rfl⟩
instance [hc:Ac fr c (.bool true)] [h:Ac fr x v]:Oj P (.pick c x y) fr v:=⟨fun _ _ _ _ _=>vn hc.out h.out⟩
instance [hc:Ac fr c (.bool false)] [h:Ac fr y v]:Oj P (.pick c x y) fr v:=⟨fun _ _ _ _ _=>Jt hc.out h.out⟩
instance [h:Ac fr x (.bool q)]:Oj P (.unOp .not t x) fr (.bool (!q)):=⟨fun _ _ _ _ _=>UK h.out⟩
instance [h:Ac fr x (.tuple ⟨vs⟩)] [k:tl vs i v]:Oj P (.extract x i) fr v:=⟨fun _ _ _ _ _=>eJ h.out k.out⟩
end
section
variable {P:Program}{Q:Exit→Act→World→Prop}{fr sa:List Value}{ds:List Deferred}{w:World}{ops:Array Oper}{rest:List Oper}{d:Tmp}{op:Op}{ty:TypeId}{pos:String}{after:Array Edge}{v:Value}{j e:Nat}{b jg:Bool}
theorem Ga [hu:Oj P op fr v] [a:We fr d v sa] (c:(ops[j]?).bind (·.dst)=some e) [f:tl fr e (.bool b)] (h:Af P ops Q rest sa ds w):Af P ops Q (⟨some d,op,ty,pos,after,some (j,b)⟩::rest) fr ds w:=wc c f.out (va (hu.out _ _ _ _ _) (ia a.out) h)
theorem sn [a:We fr d undef sa] (c:(ops[j]?).bind (·.dst)=some e) [f:tl fr e (.bool jg)] (g:(jg == b)=false) (h:Af P ops Q rest sa ds w):Af P ops Q (⟨some d,op,ty,pos,after,some (j,b)⟩::rest) fr ds w:=wn c f.out g (ia a.out) h
theorem za {T:TypeId}{sd:List Value}{n m o q:Nat}{x:Operand}[a:mc P T false sd n m] (hc:w.cell? ⟨q,o,none⟩=some v) [b:Ac fr x (.pointer (some ⟨q,o,none⟩))] [c:We fr d v sa] (h:Af P ops Q rest sa ds w):Af P ops Q (⟨some d,.load T x,ty,pos,after,none⟩::rest) fr ds w:=wl (ee a b.out hc (ia c.out) h)
theorem zg {T:TypeId}{sd cs:List Value}{n m o q:Nat}{x:Operand}[a:mc P T true sd n m] (hc:aj w q o cs) (b:cs.length=n) [c:Ac fr x (.pointer (some ⟨q,o,none⟩))] [e:We fr d (.agg ⟨cs⟩) sa] (h:Af P ops Q rest sa ds w):Af P ops Q (⟨some d,.load T x,ty,pos,after,none⟩::rest) fr ds w:=wl (Lt a c.out hc b (ia e.out) h)
theorem Qa {dst:Option Tmp}{xs:List Operand}{tys:Array TypeId}{k:FuncId}{vs:List Value}{R:Value→World→Prop}[a:Fb P k] [hs:ml fr xs vs] (hc:sb P k vs w R) (h:∀ v w',R v w'→bh fr dst v fun sa=>Af P ops Q rest sa ds w') :
  Af P ops Q (⟨dst,.call { callee:=.value (.func k),args:=⟨xs⟩,argTypes:=tys },ty,pos,after,none⟩::rest) fr ds w:=wl (Wd a Kd hs.out hc h)
theorem Jd {id:Nat}{l:List Oper}{μ:M}{w0:World}{rs:List kb}(a:ha μ w0 w rs) (h:∀ w',ha μ w0 w' rs→Ai P l.toArray Q (List.range l.length) fr ds w') (hm:P.follows .mixedOrders=true:=by kernel_rfl) (b:(List.range l.toArray.size).all (fun i=>(Uk l.toArray i).all fun j=>decide (j<i))=true:=by rfl):te P (.region id l.toArray true) Q fr ds w :=
 Qz hm b fun w' c d e f=>h w' (a.drew c d e f)
theorem ka {v:Value}{K:List Value→Prop}[a:We fr d v sa] (h:K sa):bh fr (some d) v K:=pu (ia a.out) h
theorem mq {R R':List Nat}(i:Nat) (he:(decide R.Nodup && enabled ops R i && apart ops false R i,R.erase i,ops[i]?)=(true,R',some ⟨some d,op,ty,pos,after,none⟩)) [Wa:Oj P op fr v] [a:We fr d v sa] (h:Ai P ops Q R' sa ds w) (b:di Q d:=by first | exact fun _ _ _ _ _ h=>h | exact Bb fun _ _ _ h=>h.2 | exact Bb fun _ _ _ h=>h.2.2):Ai P ops Q R fr ds w :=
 XD i he (Wa.out _ _ _ _ _) a.out h b
theorem ja {pc:List Mon}{R R':List Nat}(i:Nat) (S:List Nat) (he:(decide R.Nodup && enabled ops R i && waits ops R S i && wk ops S R i && S.contains i,R.erase i,ops[i]?)=(true,R',some ⟨some d,op,ty,pos,after,none⟩)) [Wa:Oj P op fr v] [a:We fr d v sa] (h:bf P ops Q pc R' sa ds w) (b:di Q d:=by first | exact fun _ _ _ _ _ h=>h | exact Bb fun _ _ _ h=>h.2 | exact Bb fun _ _ _ h=>h.2.2):bf P ops Q pc R fr ds w :=
 je i S he (Wa.out _ _ _ _ _) a.out h b
end
section
variable {rs rs':List kb}{pa a2 a3 a4 a5 Cb bc eb a9 Dd zc a12 r:kb}
theorem qb:ud (pa::r::rs) 1 (r::pa::rs):=.s (ud.z)
theorem jc:ud (pa::a2::r::rs) 2 (r::pa::a2::rs):=.s (.s (ud.z))
theorem Nb:ud (pa::a2::a3::r::rs) 3 (r::pa::a2::a3::rs):=.s (.s (.s (ud.z)))
theorem Ka:ud (pa::a2::a3::a4::r::rs) 4 (r::pa::a2::a3::a4::rs):=.s (.s (.s (.s (ud.z))))
theorem ae:ud (pa::a2::a3::a4::a5::r::rs) 5 (r::pa::a2::a3::a4::a5::rs):=.s (.s (.s (.s (.s (ud.z)))))
theorem qc:ud (pa::a2::a3::a4::a5::Cb::r::rs) 6 (r::pa::a2::a3::a4::a5::Cb::rs):=.s (.s (.s (.s (.s (.s (ud.z))))))
theorem gh:ud (pa::a2::a3::a4::a5::Cb::bc::r::rs) 7 (r::pa::a2::a3::a4::a5::Cb::bc::rs):=.s (.s (.s (.s (.s (.s (.s (ud.z)))))))
end
section
variable {P:Program}{Q:Exit→Act→World→Prop}{fr Wh Xh:List Value}{ds:List Deferred}{w:World}{ops:Array Oper}{l:List Oper}{R:List Nat}{pc:List Mon}{c:Operand}{x y:Code}{p:Prop}[Decidable p]{b:Bool}{d:Nat}{α:Type}{A B:Option α}{r:α}
theorem vb (h:(if p then A else B)=some r) [hc:Ac fr c (.bool (decide p))] (a:p→A=some r→te P x Q fr ds w) (b:¬ p→B=some r→te P y Q fr ds w):te P (.cond c x y) Q fr ds w:=dd hc.out (fun q=>a q (gg q h)) (fun q=>b q (xc q h))
theorem Mf (h:(if b=true then A else B)=some r) [hc:Ac fr c (.bool b)] (a:b=true→A=some r→te P x Q fr ds w) (d:¬ b=true→B=some r→te P y Q fr ds w):te P (.cond c x y) Q fr ds w:=Uh hc.out (fun q=>a q (gg q h)) (fun q=>d q (xc q h))
theorem xm (h:(if b=true then A else B)=some r) [hc:Ac fr c (.bool (!b))] (a:¬ b=true→B=some r→te P x Q fr ds w) (d:b=true→A=some r→te P y Q fr ds w):te P (.cond c x y) Q fr ds w:=Mo hc.out (fun q=>a q (xc q h)) (fun q=>d q (gg q h))
theorem Nf (d:Nat) (h:(if p then A else B)=some r) [a:tl fr d (.bool (decide p))] [b:We fr d (.bool true) Wh] [c:We fr d (.bool false) Xh] (e:p→A=some r→Af P ops Q l Wh ds w) (f:¬ p→B=some r→Af P ops Q l Xh ds w):Af P ops Q l fr ds w:=Qg a.out b.out c.out (fun q=>e q (gg q h)) (fun q=>f q (xc q h))
theorem AA (d:Nat) (h:(if b=true then A else B)=some r) [a:tl fr d (.bool b)] [c:We fr d (.bool true) Wh] [e:We fr d (.bool false) Xh] (f:b=true→A=some r→Af P ops Q l Wh ds w) (g:¬ b=true→B=some r→Af P ops Q l Xh ds w):Af P ops Q l fr ds w:=TL a.out c.out e.out (fun q=>f q (gg q h)) (fun q=>g q (xc q h))
theorem BA (d:Nat) (h:(if b=true then A else B)=some r) [a:tl fr d (.bool (!b))] [c:We fr d (.bool true) Wh] [e:We fr d (.bool false) Xh] (f:¬ b=true→B=some r→Af P ops Q l Wh ds w) (g:b=true→A=some r→Af P ops Q l Xh ds w):Af P ops Q l fr ds w:=ZK a.out c.out e.out (fun q=>f q (xc q h)) (fun q=>g q (gg q h))
theorem Wl (d:Nat) (h:(if p then A else B)=some r) [a:tl fr d (.bool (decide p))] [b:We fr d (.bool true) Wh] [c:We fr d (.bool false) Xh] (e:p→A=some r→bf P ops Q pc R Wh ds w) (f:¬ p→B=some r→bf P ops Q pc R Xh ds w):bf P ops Q pc R fr ds w:=LD a.out b.out c.out (fun q=>e q (gg q h)) (fun q=>f q (xc q h))
end
abbrev rf (l:List Value):List Value:=undef::l
abbrev Rc (l:List Value):List Value:=undef::undef::l
abbrev ke (l:List Value):List Value:=undef::undef::undef::undef::undef::l
abbrev vf (l:List Value):List Value:=undef::undef::undef::undef::undef::undef::undef::undef::undef::undef::l
abbrev ye (l:List Value):List Value:=undef::undef::undef::undef::undef::undef::undef::undef::undef::undef::undef::undef::undef::undef::undef::undef::undef::undef::undef::undef::l
abbrev He (l:List Value):List Value:=undef::undef::undef::undef::undef::undef::undef::undef::undef::undef::undef::undef::undef::undef::undef::undef::undef::undef::undef::undef::undef::undef::undef::undef::undef::undef::undef::undef::undef::undef::undef::undef::undef::undef::undef::undef::undef::undef::undef::undef::undef::undef::undef::undef::undef::undef::undef::undef::undef::undef::l
end Go.kc
namespace Go.kc
theorem Ma {α : Type}{a b : α}(h : some a = some b) : a = b := Option.some.inj h
abbrev rg : Nat → Nat → List Nat := fun a b => List.range' a b
end Go.kc
