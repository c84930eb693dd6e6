/- Texts of Xu. -/
import Derived.Test.YtibdelbpkfeefaaGreatDoorCXt
import Derived.Laws.MakeOwn
import Derived.Laws.CopyRow
import Derived.Laws.IdiomCopy
import Derived.Lib.AppendZeros
import Derived.Shelf.Strconv.ParseIntPublic10
import Derived.Lib.IndexMore
import Derived.Sort.Row
set_option linter.unusedSimpArgs false
set_option linter.unusedVariables false
set_option linter.unusedSectionVars false
namespace Go.Xc
open Go.bc Go.RowKit
theorem na.split {α:Type}[Va α]{μ:M}:∀ {l:List α}{cells:List Value}{i:Nat}{x:α},na μ cells l→l[i]?=some x →
  ∃ Ag cs sj,cells=Ag++(cs++sj)∧Ag.length=i*Va.sz α∧Va.cs μ cs x∧∀ (I:M) (a:List Value) (c:α),da μ I→Va.cs I a c→na I (Ag++(a++sj)) (l.set i c)
 | [],cells,i,x,h,b=>by simp at b
 | y::l,cells,i,x,h,b=>by
  rw [na] at h;obtain ⟨cs,t,rfl,f,j⟩:=h;cases i with
  | zero =>
   simp at b;subst b;exact ⟨[],cs,t,rfl,by simp,f,fun I a c d g=>⟨a,t,rfl,g,j.up d⟩⟩
  | succ i =>
   simp at b;obtain ⟨Ag,om,sj,rfl,e,m,st⟩:=na.split j b;exact ⟨cs++Ag,om,sj,by simp,by simp [e,Va.fh f,Nat.add_mul];omega,m,fun I a c d g=>⟨cs,Ag++(a++sj),by simp,Va.up d f,st I a c d g⟩⟩
theorem _root_.Go.bc.Row.ch {α:Type}[Va α]{w:World}{T:TypeId}{n:Nat}{μ:M}{v:Value}{cells:List Value}{l:List α}{i:Int}{x:α}(h:Row w v T (Va.sz α) n cells) (d:na μ cells l) (y:l.length=n) (g:at_ l i=some x) :
  ∃ b o Ag cs sj,cells=Ag++(cs++sj)∧Ei v (Va.sz α) i b o∧(∀ w T a,Row w v T (Va.sz α) n (Ag++(a++sj))→a.length=Va.sz α→ui w b o a)∧Va.cs μ cs x∧Ag.length=i.toNat*Va.sz α ∧
   (∀ (I:M) (a:List Value) (f:α),da μ I→Va.cs I a f→na I (Ag++(a++sj)) (l.set i.toNat f))∧na μ (Ag++(cs++sj)) l:=by
 obtain ⟨p,z,q⟩:=oq g;obtain ⟨b,o,c,rfl,hc⟩:=h.Xk (by omega);obtain ⟨Ag,cs,sj,rfl,e,m,st⟩:=d.split q;refine ⟨b,o+i.toNat*Va.sz α,Ag,cs,sj,rfl,⟨o,_,_,rfl,p,by omega,rfl⟩,?_,m,e,st,d⟩;intro A B a r C j u k;obtain ⟨kg,D,F,Nb,s⟩:=r.Xk (by omega);simp at Nb;obtain ⟨⟨rfl,rfl⟩,rfl⟩:=Nb;have t:j<a.length:=(List.getElem?_eq_some_iff.1 k).1;have:=s (Ag.length+j) u (by rw [List.getElem?_append_right (by omega),show Ag.length+j - Ag.length=j by omega,List.getElem?_append_left t];exact k);rw [e,← Nat.add_assoc] at this;exact this
theorem jk {Ag cs a sj vs:List Value}{i off sz:Nat}(pl:Ag.length=i*sz) (h:cs.take off++vs++cs.drop (off+vs.length)=a) (b:off+vs.length≤cs.length) :
  (Ag++(cs++sj)).take (i*sz+off)++vs++(Ag++(cs++sj)).drop (i*sz+off+vs.length)=Ag++(a++sj):=by
 subst h;rw [← pl,Nat.add_assoc,List.take_append,List.drop_append];simp [List.take_append_of_le_length (show off≤cs.length by omega),List.drop_append_of_le_length b,List.take_of_length_le (show Ag.length≤Ag.length+off by omega),List.drop_of_length_le (show Ag.length≤Ag.length+(off+vs.length) by omega)]
section
variable {P:Program}{Q:Exit→Act→World→Prop}{K:List Value→List Deferred→World→Prop}{fr U:List Value}{ds:List Deferred}{w:World}
variable {dst:Option Tmp}{ty:TypeId}{pos:String}{after:Array Edge}{g:Option (Nat×Bool)}
variable {w0:World}{rs rs':List jb}{μ I:M}
variable {T:TypeId}
theorem Ue.two {es:List MapEntry}{c:Nat}{k0 k1:List UInt8}{x0 x1:Int}(h:Ue μ es c [(k0,x0),(k1,x1)]) :
  ∃ u j,es=[⟨S k0,.int .i64 x0,u⟩,⟨S k1,.int .i64 x1,j⟩]∧u<j∧j<c:=by
 obtain ⟨e,l,m⟩:=h
 match es,e,l,m with
 | [],e,_,_=>simp [lg] at e
 | [a],e,_,_ =>
  rw [lg] at e;obtain ⟨k,x,t,g,-,-,f⟩:=e;simp [lg] at f g;simp [f] at g
 | [a,b],e,l,m =>
  rw [lg] at e;obtain ⟨k,x,t,g,n,o,f⟩:=e;rw [lg] at f;obtain ⟨w,y,Wc,p,q,r,s⟩:=f;subst p;simp only [List.cons.injEq,Prod.mk.injEq] at g;obtain ⟨⟨rfl,rfl⟩,⟨rfl,rfl⟩,-⟩:=g;obtain ⟨z,A,v⟩:=a;obtain ⟨B,bv,i⟩:=b;have o:A=.int .i64 x0:=o;have r:bv=.int .i64 x1:=r;have n:z=S k0:=n;have q:B=S k1:=q;subst n q o r;have C:v<i:=List.rel_of_pairwise_cons m (List.mem_singleton.2 rfl);have D:i<c:=l ⟨S k1,.int .i64 x1,i⟩ (by simp);exact ⟨v,i,rfl,C,D⟩
 | a::b::d::es,e,_,_ =>
  rw [lg] at e;obtain ⟨k,x,t,g,-,-,f⟩:=e;rw [lg] at f;obtain ⟨w,y,Wc,p,-,-,s⟩:=f;rw [lg] at s;obtain ⟨G,H,K,F,-,-,-⟩:=s;subst F p;simp at g
theorem ot (w:World) (b:Nat) (o:Obj) (a:b<w.heap.size):Th (fun k=>k≠b) w { w with heap:=w.heap.setIfInBounds b o }∧({ w with heap:=w.heap.setIfInBounds b o }:World).heap[b]?=some o :=
 ⟨⟨rfl,rfl,rfl,by simp,fun j _ c=>by simp [Array.getElem?_setIfInBounds,Ne.symm c]⟩,by simp [a]⟩
theorem wF {x:Operand}{b m c i k a d:Nat}{a0 v0 O v1:Value}(o:db fr x (.pointer (some ⟨b,0,none⟩))) (f:ka μ w0 w rs) (j:oc rs i (.dk b m c [] c)) (hm:oc rs k (.map m [⟨a0,v0,a⟩,⟨O,v1,d⟩] c)) (B:a<d) (p:d<c)
  (y:∀ w' rs',sc rs i (.dk b m c [a] c) rs'→ka μ w0 w' rs'→Ng fr dst (.tuple ⟨[.bool true,a0,v0]⟩) fun U=>K U ds w')
  (z:∀ w' rs',sc rs i (.dk b m c [d] c) rs'→ka μ w0 w' rs'→Ng fr dst (.tuple ⟨[.bool true,O,v1]⟩) fun U=>K U ds w') :
  Ed P (Oper.mk dst (.next x false) ty pos after g) fr ds w K Q:=by
 have h:w.heap[b]?=some (.mapIter (some m) c ⟨[]⟩ c):=f.get j;have q:w.heap[m]?=some (.map ⟨[⟨a0,v0,a⟩,⟨O,v1,d⟩]⟩ c):=f.get hm;have r:b<w.heap.size:=(Array.getElem?_eq_some_iff.1 h).1;have s:w.drew.heap[b]?=some (.mapIter (some m) c ⟨[]⟩ c):=h;have t:a<c:=by omega
 have u:¬ a ≥ c:=by omega
 have v:¬ d ≥ c:=by omega
 by_cases pb:(w.tape w.drawn (.mapNext 2)) % 2=0
 ·obtain ⟨l,n⟩:=ot w.drew b (.mapIter (some m) c ⟨[a]⟩ c) r;obtain ⟨U,e⟩:=Sh fr dst (.tuple ⟨[.bool true,a0,v0]⟩);refine Bh (w':={ w.drew with heap:=w.drew.heap.setIfInBounds b (.mapIter (some m) c ⟨[a]⟩ c) }) ?_ e (y _ _ rfl ((f.drew (w':=w.drew) rfl rfl rfl rfl).put (b:=b) j rfl rfl rfl n l) U e);simp [execOp,o ds,Instr.next,getObj,setObj,Sem.run,h,q,Result.andThen,t,p,u,v,choose,Question.forced,Question.cut,pb,s]
 ·have A:(w.tape w.drawn (.mapNext 2)) % 2=1:=by omega
  obtain ⟨l,n⟩:=ot w.drew b (.mapIter (some m) c ⟨[d]⟩ c) r;obtain ⟨U,e⟩:=Sh fr dst (.tuple ⟨[.bool true,O,v1]⟩);refine Bh (w':={ w.drew with heap:=w.drew.heap.setIfInBounds b (.mapIter (some m) c ⟨[d]⟩ c) }) ?_ e (z _ _ rfl ((f.drew (w':=w.drew) rfl rfl rfl rfl).put (b:=b) j rfl rfl rfl n l) U e);simp [execOp,o ds,Instr.next,getObj,setObj,Sem.run,h,q,Result.andThen,t,p,u,v,choose,Question.forced,Question.cut,A,s]
theorem xF {x:Operand}{b m c f k a d:Nat}{a0 v0 O v1:Value}(o:db fr x (.pointer (some ⟨b,0,none⟩))) (e:ka μ w0 w rs) (j:oc rs f (.dk b m c [a] c)) (hm:oc rs k (.map m [⟨a0,v0,a⟩,⟨O,v1,d⟩] c)) (C:a<d) (p:d<c)
  (q:∀ w' rs',sc rs f (.dk b m c [a,d] c) rs'→ka μ w0 w' rs'→Ng fr dst (.tuple ⟨[.bool true,O,v1]⟩) fun U=>K U ds w') :
  Ed P (Oper.mk dst (.next x false) ty pos after g) fr ds w K Q:=by
 have l:w.heap[b]?=some (.mapIter (some m) c ⟨[a]⟩ c):=e.get j;have r:w.heap[m]?=some (.map ⟨[⟨a0,v0,a⟩,⟨O,v1,d⟩]⟩ c):=e.get hm;have s:b<w.heap.size:=(Array.getElem?_eq_some_iff.1 l).1;have t:¬ a ≥ c:=by omega
 have u:¬ d ≥ c:=by omega
 have v:¬ ∀ (i:Nat) (x:i<2),c≤([⟨a0,v0,a⟩,⟨O,v1,d⟩]:List MapEntry)[i].born:=fun h=>by have:=h 0 (by decide);simp at this;omega
 have y:¬ d=a:=by omega
 have z:¬ a=d:=by omega
 obtain ⟨A,B⟩:=ot w b (.mapIter (some m) c ⟨[a,d]⟩ c) s;obtain ⟨U,n⟩:=Sh fr dst (.tuple ⟨[.bool true,O,v1]⟩);refine Bh (w':={ w with heap:=w.heap.setIfInBounds b (.mapIter (some m) c ⟨[a,d]⟩ c) }) ?_ n (q _ _ rfl (e.put (b:=b) j rfl rfl rfl B A) U n);simp [execOp,o ds,Instr.next,getObj,setObj,Sem.run,l,r,Result.andThen,p,t,u,y,z,v,choose,Question.forced]
theorem OE {x:Operand}{b m c f k d a:Nat}{a0 v0 O v1:Value}(o:db fr x (.pointer (some ⟨b,0,none⟩))) (e:ka μ w0 w rs) (j:oc rs f (.dk b m c [a] c)) (hm:oc rs k (.map m [⟨a0,v0,d⟩,⟨O,v1,a⟩] c)) (C:d<a) (D:a<c)
  (p:∀ w' rs',sc rs f (.dk b m c [a,d] c) rs'→ka μ w0 w' rs'→Ng fr dst (.tuple ⟨[.bool true,a0,v0]⟩) fun U=>K U ds w') :
  Ed P (Oper.mk dst (.next x false) ty pos after g) fr ds w K Q:=by
 have l:w.heap[b]?=some (.mapIter (some m) c ⟨[a]⟩ c):=e.get j;have q:w.heap[m]?=some (.map ⟨[⟨a0,v0,d⟩,⟨O,v1,a⟩]⟩ c):=e.get hm;have r:b<w.heap.size:=(Array.getElem?_eq_some_iff.1 l).1;have s:d<c:=by omega
 have t:¬ d ≥ c:=by omega
 have u:¬ a ≥ c:=by omega
 have v:¬ ∀ (i:Nat) (x:i<2),c≤([⟨a0,v0,d⟩,⟨O,v1,a⟩]:List MapEntry)[i].born:=fun h=>by have:=h 0 (by decide);simp at this;omega
 have y:¬ a=d:=by omega
 have z:¬ d=a:=by omega
 obtain ⟨A,B⟩:=ot w b (.mapIter (some m) c ⟨[a,d]⟩ c) r;obtain ⟨U,n⟩:=Sh fr dst (.tuple ⟨[.bool true,a0,v0]⟩);refine Bh (w':={ w with heap:=w.heap.setIfInBounds b (.mapIter (some m) c ⟨[a,d]⟩ c) }) ?_ n (p _ _ rfl (e.put (b:=b) j rfl rfl rfl B A) U n);simp [execOp,o ds,Instr.next,getObj,setObj,Sem.run,l,q,Result.andThen,s,t,u,y,z,v,choose,Question.forced]
theorem ZA {x:Operand}{b m c f k d a p q:Nat}{a0 v0 O v1:Value}(j:db fr x (.pointer (some ⟨b,0,none⟩))) (e:ka μ w0 w rs) (l:oc rs f (.dk b m c [p,q] c)) (hm:oc rs k (.map m [⟨a0,v0,d⟩,⟨O,v1,a⟩] c)) (z:d<a) (A:a<c) (n:p=d∧q=a∨p=a∧q=d)
  (pb:Ze fr dst (.tuple ⟨[.bool false]⟩) U) (h:K U ds w) :
  Ed P (Oper.mk dst (.next x false) ty pos after g) fr ds w K Q:=by
 have o:w.heap[b]?=some (.mapIter (some m) c ⟨[p,q]⟩ c):=e.get l;have r:w.heap[m]?=some (.map ⟨[⟨a0,v0,d⟩,⟨O,v1,a⟩]⟩ c):=e.get hm;have s:¬ d ≥ c:=by omega
 have t:¬ a ≥ c:=by omega
 have u:¬ ∀ (i:Nat) (x:i<2),c≤([⟨a0,v0,d⟩,⟨O,v1,a⟩]:List MapEntry)[i].born:=fun h=>by have:=h 0 (by decide);simp at this;omega
 have v:¬ a=d:=by omega
 have y:¬ d=a:=by omega
 refine Bh (w':=w) ?_ pb h;rcases n with ⟨rfl,rfl⟩ | ⟨rfl,rfl⟩<;>simp [execOp,j ds,Instr.next,getObj,setObj,Sem.run,o,r,Result.andThen,s,t,v,y,u,choose,Question.forced]
theorem Nt {x:Operand}{b m c i k a d:Nat}{a0 v0 O v1:Value}{seen:List Nat}{e:MapEntry}(j:db fr x (.pointer (some ⟨b,0,none⟩))) (f:ka μ w0 w rs) (l:oc rs i (.dk b m c seen c)) (hm:oc rs k (.map m [⟨a0,v0,a⟩,⟨O,v1,d⟩] c)) (t:a<d)
  (n:seen.getLast?=some e.born) (he:e=⟨a0,v0,a⟩∨e=⟨O,v1,d⟩) (pb:Ze fr dst (.tuple ⟨[e.key,e.val]⟩) U) (h:K U ds w) :
  Ed P (Oper.mk dst (.entry x) ty pos after g) fr ds w K Q:=by
 have o:w.heap[b]?=some (.mapIter (some m) c ⟨seen⟩ c):=f.get l;have p:w.heap[m]?=some (.map ⟨[⟨a0,v0,a⟩,⟨O,v1,d⟩]⟩ c):=f.get hm;have q:¬ d=a:=by omega
 have r:¬ a=d:=by omega
 have s:(⟨seen⟩:Array Nat).back?=some e.born:=by rw [← n];simp [Array.back?,List.getLast?_eq_getElem?]
 refine Bh (w':=w) ?_ pb h;rcases he with rfl | rfl<;>simp [execOp,j ds,Instr.entry,getObj,Sem.run,o,p,Result.andThen,s,q,r]
end
end Go.Xc
namespace Go.Xc
open Go.bc Go.RowKit
section
variable {P:Program}{Q:Exit→Act→World→Prop}{K:List Value→List Deferred→World→Prop}{fr U:List Value}{ds:List Deferred}{w:World}
variable {dst:Option Tmp}{ty:TypeId}{pos:String}{after:Array Edge}{g:Option (Nat×Bool)}
structure aB (P:Program) (f:FuncId) (args:List Value) (w:World) (R:Value→World→Prop):Prop where
 out:CallsD P f ⟨args⟩ .returning w fun e a w'=>a=.returning∧okV R e w'
theorem KH {fn:Func}{R a:Value→World→Prop}{k:FuncId}{cap vs:List Value}(b:wb P k) (hc:aB P k (vs++cap) w a) (h:∀ v w',a v w'→Oo P fn R .ret (F fr ds) w') :
  Oo P fn R .ret (F fr (⟨.fn (.func k) ⟨cap⟩,⟨vs⟩⟩::ds)) w:=by
 refine ⟨by simp,.func k,⟨cap⟩,k,⟨vs++cap⟩,rfl,?_,?_⟩
 ·have:=b.out ⟨vs++cap⟩ w;simp [invoke,this]
 ·refine hc.out.mono fun e d w' he=>?_;obtain ⟨rfl,he⟩:=he;cases e with
  | returned v=>exact h v w' he
  | panicked c=>exact he.elim
  | outgrown=>exact he.elim
theorem NG {P:Program}{T:TypeId}{ms:Array (String×TypeId)}{v:Value}{b:Bool}(hu:P.underlying T=some (.interface ms)) (Nb:(v=.nilIface∧b=true)∨((∃ a c,v=.iface a c)∧b=false)):mm P 1 T v .nilIface b:=⟨fun d w pb=>by
 cases d with
 | zero=>omega
 | succ d=>rcases Nb with ⟨rfl,rfl⟩ | ⟨⟨a,c,rfl⟩,rfl⟩ <;> simp [Op.equalIn,run_underlying hu]⟩
theorem OG {x:Operand}{t Wc:TypeId}{v:Value}{b:Bool}{ms:Array (String×TypeId)}(hu:P.underlying t=some (.interface ms)) (d:db fr x v) (Nb:(v=.nilIface∧b=true)∨((∃ a c,v=.iface a c)∧b=false)) (e:Ze fr dst (.bool b) U) (k:K U ds w) :
  Ed P (Oper.mk dst (.binOp .eql t x (.const .nilIface) Wc) ty pos after g) fr ds w K Q:=by
 refine sa ⟨fun ds w=>?_⟩ e k;have f:=d ds;have h:(F fr ds).eval (.const .nilIface)=.nilIface:=rfl;have i:=(NG hu Nb).out Op.maxDepth w (by decide);rcases Nb with ⟨rfl,rfl⟩ | ⟨⟨a,c,rfl⟩,rfl⟩<;>simp [execOp,f,h,eqGuard,binOp,Op.equal,i]
end
end Go.Xc
namespace Go.Xc
open Go.bc Go.RowKit
def GI (agg:Bool) (cs:List Value):Value:=if agg then .agg ⟨cs⟩ else cs.headD undef
structure km (P:Program) (E:M) (K:Nat) (e:List Value){α:Type}[Va α] (agg:Bool) (f:α→Option Bool):Prop where
 zq:wb P K
 call:∀ {a:M}{w0 c:World}{rs:List jb}{x:α}{b:Bool}{cs:List Value},da E a→Va.cs a cs x→f x=some b→ka a w0 c rs→nb P K ([GI agg cs]++e) c (fun v w'=>∃ d,v=.bool b∧da a d∧ka d w0 w' rs)
theorem km.up {P:Program}{μ I:M}{K:Nat}{a:List Value}{α:Type}[Va α]{agg:Bool}{b:α→Option Bool}(h:km P μ K a agg b) (l:da μ I):km P I K a agg b:=⟨h.zq,fun c=>h.call (l.t c)⟩
end Go.Xc
namespace Go.Xc
open Go.bc Go.RowKit
section
variable {P : Program}{Q : Exit → Act → World → Prop}{K : List Value → List Deferred → World → Prop}{fr U : List Value}{ds : List Deferred}{w w' : World}
variable {dst : Option Tmp}{ty : TypeId}{pos : String}{after : Array Edge}{g : Option (Nat × Bool)}
variable {w0 : World}{rs rs' : List jb}{μ I : M}
variable {T : TypeId}{d : TypeDesc}{zf : Bool}{td : List Value}{n m : Nat}
theorem _root_.Go.bc.Sep.newRow {S Gd : Nat → Prop}{A : World → Prop}{v : Value}{sz k : Nat}{xs : List Value}(a : Sep S Gd w0 w rs A) (c : Grow w w') (g : Row w' v T sz k xs) (d : ∀ b, v.ownBlock = some b → w.heap.size ≤ b) :
    Sep S Gd w0 w' (.row v T sz k xs :: rs) A where
  keeps := a.keeps.trans c.keeps
  all r i := by
    rcases List.mem_cons.1 i with rfl | h
    · exact g
    · exact (a.grow c).all r h
  Xh := by
    cases Nb : v.ownBlock with
    | none => simp only [blocks, List.filterMap_cons, jb.block, Nb]; exact a.Xh
    | some b =>
      simp only [blocks, List.filterMap_cons, jb.block, Nb, List.nodup_cons];exact ⟨fun hm => by have := a.lt hm;have := d b Nb;omega, a.Xh⟩
  new b hm := by
    cases Nb : v.ownBlock with
    | none => simp only [blocks, List.filterMap_cons, jb.block, Nb] at hm; exact a.new b hm
    | some kg =>
      simp only [blocks, List.filterMap_cons, jb.block, Nb, List.mem_cons] at hm;rcases hm with rfl | hm
      · exact .inl (Nat.le_trans a.keeps.size (d _ Nb))
      · exact a.new b hm
  si := fun j l m => a.si j (Nat.le_trans c.size l) fun k f e => (m k (Nat.lt_of_lt_of_le f c.size) ⟨e.1, fun hm => by
    cases Nb : v.ownBlock with
    | none => simp only [blocks, List.filterMap_cons, jb.block, Nb] at hm; exact e.2 hm
    | some kg =>
      simp only [blocks, List.filterMap_cons, jb.block, Nb, List.mem_cons] at hm;rcases hm with rfl | hm
      · have := d _ Nb;omega
      · exact e.2 hm⟩).trans (c.ba k f trivial)
theorem cv {e : TypeId}{sz k base : Nat}{v : Value}{xs : List Value}(h : w.ownsRow base e sz v k xs) : Row w v e sz k xs ∧ ∀ b, v.ownBlock = some b → base ≤ b := by
  obtain ⟨a, d⟩ := h;rcases d with ⟨rfl, rfl⟩ | ⟨g, cap, cur, rfl, c, f, i, j, n, l⟩
  · exact ⟨⟨a, .inl ⟨rfl, rfl⟩⟩, fun b c => by simp [Value.ownBlock] at c⟩
  · exact ⟨⟨a, .inr ⟨g, 0, cap, cur, rfl, f, i, j, by omega, by simpa using l⟩⟩, fun b m => by simp [Value.ownBlock] at m;omega⟩
def Kn (n : Int) : Option Nat := if 0 ≤ n ∧ n ≤ 65536 then some n.toNat else none
theorem PG {n : Int}{k : Nat}(h : Kn n = some k) : n = k ∧ k ≤ 65536 := by
  unfold Kn at h;split at h
  · rename_i hc;have := Option.some.inj h;omega
  · cases h
theorem PE (z : Value) (k : Nat) : madeCells #[z] k = (List.replicate k z).toArray := by
  apply Array.ext';simp only [madeCells, Array.toList_map, Array.toList_range];apply List.ext_getElem?;intro i;simp only [List.getElem?_map, List.getElem?_range', List.getElem?_replicate];by_cases h : i < k
  · simp [h, Nat.mod_one]
  · simp [h]
theorem Ms {x y : Operand}{e : TypeId}{z : Value}{bytes k : Nat}{c d : IntKind}{n : Int}(f : P.underlying T = some (.slice e)) (j : kc P e zf [z] 1 bytes) (A : bytes ≤ 4096) (l : db fr x (.int c n)) (m : db fr y (.int d n)) (o : Kn n = some k) (p : ka μ w0 w rs)
    (h : ∀ b w', ka μ w0 w' (.row (.slice (some ⟨b, 0, none⟩) k k) e 1 k (List.replicate k z):: rs) → Ng fr dst (.slice (some ⟨b, 0, none⟩) k k) fun U => K U ds w') :
    Ed P (Oper.mk dst (.makeSlice T x y) ty pos after g) fr ds w K Q := by
  obtain ⟨rfl, q⟩ := PG o;obtain ⟨i, r, s, t, u, v, B⟩ := j.inf;have hm : i.bytes * k ≤ 4096 * 65536 := Nat.mul_le_mul (by omega) q;have a := run_make (P := P) w T e i r f s t c d k k (by omega) (Int.le_refl _) (by rw [← Int.natCast_mul];omega) (by omega);simp only [Int.toNat_natCast, v, Nat.mul_one, u] at a;rw [PE] at a;obtain ⟨U, pb⟩ := Sh fr dst (.slice (some ⟨w.heap.size, 0, none⟩) k k);refine Bh (w' := w.alloc (.cells (List.replicate k z).toArray e)) ?_ pb (h _ _ (p.alloc rfl ⟨by simp, .inr ⟨_, 0, _, _, rfl, heap_alloc_new w _, Nat.le_refl _, by simp only [maxLen];omega, by simp, by simp⟩⟩) U pb);simp only [execOp, l ds, m ds, Sem.run_bind, a, Result.andThen_ok, Sem.run_pure]
theorem iq {α : Type}[Va α]{z : Value}{x : α}(h : ∀ μ : M, Va.cs μ [z] x) : ∀ k, na μ (List.replicate k z) (List.replicate k x)
  | 0 => rfl
  | k + 1 => ⟨[z], _, rfl, h μ, iq h k⟩
theorem LH {t e : TypeId}{v : Value}{a : Option Addr}{k c : Nat}(hu : P.underlying t = some (.slice e)) : mm P 1 t (.slice a k c) (.slice none 0 0) a.isNone := ⟨fun d w pb => by
  cases d with
  | zero => omega
  | succ d => cases a <;> simp [Op.equalIn, run_underlying hu]⟩
theorem yF {x : Operand}{t Wc e : TypeId}{a : Option Addr}{k c : Nat}(hu : P.underlying t = some (.slice e)) (b : db fr x (.slice a k c)) (d : Ze fr dst (.bool a.isNone) U) (h : K U ds w) :
    Ed P (Oper.mk dst (.binOp .eql t x (.const (.slice none 0 0)) Wc) ty pos after g) fr ds w K Q := by
  refine sa ⟨fun ds w => ?_⟩ d h;have f := b ds;have i : (F fr ds).eval (.const (.slice none 0 0)) = .slice none 0 0 := rfl;have j := (LH (v := .nilIface) (a := a) (k := k) (c := c) hu).out Op.maxDepth w (by decide);simp [execOp, f, i, eqGuard, binOp, Op.equal, j]
def small {α : Type}(l : List α) : Option Unit := if l.length ≤ 65536 then some () else none
theorem pt {α : Type}{l : List α}{u : Unit}(h : small l = some u) : l.length ≤ 65536 := by
  unfold small at h;split at h
  · assumption
  · cases h
theorem na.jy {α : Type}[Va α] : ∀ {l : List α}{cells : List Value}(i : Nat), na μ cells l → na μ (cells.take (i * Va.sz α)) (l.take i)
  | [], cells, i, h => by rw [na] at h; subst h; simp [na]
  | x :: l, cells, 0, h => by simp [na]
  | x :: l, cells, i + 1, h => by
    rw [na] at h;obtain ⟨cs, t, rfl, a, b⟩ := h;rw [List.take_succ_cons, na];refine ⟨cs, t.take (i * Va.sz α), ?_, a, na.jy i b⟩;have e : (i + 1) * Va.sz α = cs.length + i * Va.sz α := by rw [Nat.add_mul, Va.fh a];omega
    rw [e, List.take_append];simp [List.take_of_length_le (show cs.length ≤ cs.length + i * Va.sz α by omega)]
theorem Row.Xy {α : Type}[Va α]{v : Value}{cells : List Value}{l b : List α}{j : Int}(h : Row w v T (Va.sz α) l.length cells) (hm : na μ cells l) (g : cut l 0 j = some b) :
    ∃ a c, dn v (Va.sz α) none (some j) a ∧ a.ownBlock = v.ownBlock ∧ (∀ w T, Row w v T (Va.sz α) l.length cells → Row w a T (Va.sz α) b.length c) ∧ na μ c b := by
  obtain ⟨⟨n, d, e⟩, rfl⟩ := Fo g;obtain ⟨a, Ya, f, i⟩ := Row.WB h d e;refine ⟨a, cells.take (j.toNat * Va.sz α), Ya, f, fun w T k => ?_, by simpa using hm.jy j.toNat⟩;have := i w T k;have m : ((l.take j.toNat).drop (0 : Int).toNat).length = j.toNat := by simp;omega
  rw [m];exact this
theorem zF {recv : Operand}{xs : List Operand}{tys : Array TypeId}{name : String}{k : FuncId}{t : TypeId}{a : Value}{vs : List Value}(hm : ∀ w, (method (P.types.size + Made.depth) t a name).run P w = .ok (k, a) w) (b : wb P k) (c : db fr recv (.iface t a)) (d : uk fr xs vs) :
    (execOp (F fr ds).eval (Oper.mk dst (.call { callee := .invoke recv name, args := ⟨xs⟩, argTypes := tys }) ty pos after g)).run P w = .ok (.enter k ⟨a :: vs⟩) w := by
  have e := c ds;have f := d ds;have h := b.out ⟨a :: vs⟩ w;have i := hm w;simp [execOp, resolve, e, invoke, callMethod, f, h, i]
theorem Ot {recv : Operand}{xs : List Operand}{tys : Array TypeId}{name : String}{k : FuncId}{t : TypeId}{a : Value}{vs : List Value}{R : Value → World → Prop}(hm : ∀ w, (method (P.types.size + Made.depth) t a name).run P w = .ok (k, a) w) (b : wb P k) (c : db fr recv (.iface t a)) (d : uk fr xs vs)
    (hc : nb P k (a :: vs) w R) (h : ∀ v w', R v w' → Ng fr dst v fun U => K U ds w') : Ed P (Oper.mk dst (.call { callee := .invoke recv name, args := ⟨xs⟩, argTypes := tys }) ty pos after g) fr ds w K Q :=
  Ft (args := a :: vs) (zF hm b c d) hc h
end
end Go.Xc
namespace Go.Xc
open Go.bc Go.RowKit
section
variable {P:Program}{Q:Exit→Act→World→Prop}{K:List Value→List Deferred→World→Prop}{fr U:List Value}{ds:List Deferred}{w w':World}
variable {dst:Option Tmp}{ty:TypeId}{pos:String}{after:Array Edge}{g:Option (Nat×Bool)}
variable {w0:World}{rs rs':List jb}{μ I:M}
variable {T:TypeId}{d:TypeDesc}{zf:Bool}{td:List Value}{n m:Nat}
def Yo (a b:Int):Option Int:=if b=0 then none else some (a.tmod b)
theorem Im {a b c:Int}(h:Yo a b=some c):b≠0∧a.tmod b=c:=by
 unfold Yo at h;split at h
 ·cases h
 ·rename_i d;exact ⟨d,Option.some.inj h⟩
theorem Ei.uniq {v:Value}{sz:Nat}{i:Int}{b o kg a:Nat}(h:Ei v sz i b o) (d:Ei v sz i kg a):b=kg∧o=a:=by
 obtain ⟨e,n,c,rfl,_,_,rfl⟩:=h.out;obtain ⟨f,g,j,he,_,_,rfl⟩:=d.out;cases he;exact ⟨rfl,rfl⟩
theorem GA {α:Type}{w:World}{v:Value}{T sz i:Nat}{x:α}{l:List α}{cs:List Value}(h:Row w v T sz (l.set i x).length cs):Row w v T sz l.length cs:=by
 rwa [List.length_set] at h
theorem QE {α:Type}{l:List α}{k:Nat}{x:α}(h:l[k]?=some x):l.set k x=l:=by
 apply List.ext_getElem?;intro i;rw [List.getElem?_set];split
 ·rename_i e;subst e;rw [if_pos (List.getElem?_eq_some_iff.1 h).1,h]
 ·rfl
def Hq {α:Type}(l ys:List α):List α:=ys.take l.length++l.drop ys.length
theorem AF {α:Type}(l ys:List α):(Hq l ys).length=l.length:=by simp [Hq];omega
theorem QG {α:Type}[Va α] (c:Va.sz α=1){l ys:List α}{cells news:List Value}(h:na μ cells l) (k:na μ news ys):na μ (news.take l.length++cells.drop ys.length) (Hq l ys):=by
 have a:=k.jy l.length;have b:=h.drop ys.length;rw [c,Nat.mul_one] at a b;exact na.cat b a
theorem RG {α:Type}[Va α]{t Wc:TypeId}{x y:Operand}{v:Value}{bytes k c:Nat}{a:Option Addr}{cells news:List Value}{l ys:List α}(A:Va.sz α=1) (M:P.underlying t=some (.slice T)) (V:kc P T zf td 1 bytes)
  (W:db fr x v) (X:db fr y (.slice a ys.length c)) (m:ka μ w0 w rs) (B:oc rs k (.row v T 1 l.length cells)) (p:na μ cells l) (hm:na μ news ys) (Y:ys≠[]→∃ b o,a=some ⟨b,o,none⟩∧tc μ b o news)
  (h:∀ n w' rs',sc rs k (.row v T 1 l.length (news.take l.length++cells.drop ys.length)) rs'→ka μ w0 w' rs'→Ng fr dst (.int .i64 n) fun U=>K U ds w') :
  Ed P (Oper.mk dst (.call { callee:=.builtin .copy,args:=#[x,y],argTypes:=#[t,Wc] }) ty pos after g) fr ds w K Q:=by
 have N:Row w v T 1 l.length cells:=m.get B;have q:news.length=ys.length:=by have:=hm.len;rw [A] at this;omega
 have R:(P.info? T).map (·.size)=some 1:=by
  obtain ⟨i,z,Z,-,-,gc,-⟩:=V.inf;rw [Z];simp [gc]
 have run:∀ {r:Int}{w'},(Builtin.copy_ #[t,Wc] ty #[v,.slice a ys.length c]).run P w=.ok (.int .i64 r) w' →
   (execOp (F fr ds).eval (Oper.mk dst (.call { callee:=.builtin .copy,args:=#[x,y],argTypes:=#[t,Wc] }) ty pos after g)).run P w=.ok (.value (.int .i64 r)) w':=fun p=>by
  have lc:=W ds;have rc:=X ds;simp [execOp,resolve,invoke,builtin,lc,rc,p]
 by_cases d:ys.length=0∨l.length=0
 ·obtain ⟨U,pb⟩:=Sh fr dst (.int .i64 (0:Nat));have fd:Nat.min ys.length l.length=0:=by rcases d with d | d<;>simp [d,Nat.min_def]<;>omega
  have id:news.take l.length++cells.drop ys.length=cells:=by
   have hc:=p.len;rw [A] at hc;rcases d with d | d
   ·rw [d] at q ⊢;simp [List.eq_nil_of_length_eq_zero q]
   ·simp [d,List.eq_nil_of_length_eq_zero (show cells.length=0 by omega)]
  obtain ⟨C,D,G,rfl,md⟩:∃ C D G,v=.slice C D G∧D=l.length:=by
   rcases N.2 with ⟨rfl,H⟩ | ⟨g,o,cap,cur,rfl,-⟩
   ·exact ⟨none,0,0,rfl,H.symm⟩
   ·exact ⟨_,_,_,rfl,rfl⟩
  subst md;refine Bh (w':=w) (run (r:=((0:Nat):Int)) ?_) pb (h _ w rs ?_ m U pb)
  ·have:=run_copy_none (P:=P) w t Wc ty T C a l.length G ys.length c M R fd;simpa [goInt] using this
  ·rw [id];unfold sc oc at *;exact QE B
 ·have rd:ys≠[]:=fun e=>d (.inl (by simp [e]));obtain ⟨Af,Zd,rfl,wd⟩:=Y rd;have Fd:=p.len;rw [A,Nat.mul_one] at Fd;rcases N.2 with ⟨rfl,H⟩ | ⟨f,o,cap,cur,rfl,S,Id,be,Ne,ce⟩
  ·exact absurd (.inr H) d
  ·obtain ⟨U,pb⟩:=Sh fr dst (.int .i64 ((news.take l.length).length:Nat));have of:(news.take l.length).length≤l.length:=by simp;omega
   have ge:Mi w f T cur.toList:=S;have he:=hm.sg;have le:=run_copy_row (P:=P) w t Wc ty T f o l.length cap ⟨Af,Zd,none⟩ ys.length c cur T (news.take l.length) M R S (by simp [q,Nat.min_comm]) (fun j u s=>by
    rw [List.getElem?_take] at s;split at s
    ·have:=wd w m.a j u s;rwa [Tj]
    ·cases s) (by omega) (fun u hu=>jt (List.all_eq_true.1 he u (List.mem_of_mem_take hu)))
   have key:Th (fun k=>k≠f) w (w.setRow f (cur.toList.take o++news.take l.length++cur.toList.drop (o+(news.take l.length).length)).toArray):=⟨rfl,rfl,rfl,by simp [World.setRow],fun k wf ne=>setRow_other w f k _ ne⟩;refine Bh (w':=w.setRow f (cur.toList.take o++news.take l.length++cur.toList.drop (o+(news.take l.length).length)).toArray) (run (r:=((news.take l.length).length:Nat)) (by rw [le];rfl)) pb (h _ _ _ rfl (m.put (b:=f) B rfl rfl rfl ?_ key) U pb);refine ⟨by simp;omega,.inr ⟨f,o,cap,_,rfl,setRow_heap w f ⟨cur.toList⟩ _ T (0,0) ge,Id,be,?_,?_⟩⟩
   ·simp;omega
   ·have:=Hz cur.toList (news.take l.length) o 0 (l.length*1) (by omega) (by simp;omega);simp only [Nat.add_zero,List.take_zero,List.nil_append,Nat.zero_add] at this;rw [List.toList_toArray,this,ce];congr 1;by_cases hle:ys.length≤l.length
    ·simp [q,Nat.min_eq_right hle]
    ·rw [List.drop_eq_nil_of_le (by simp;omega),List.drop_eq_nil_of_le (by omega)]
theorem SG {x y:Operand}{t Wc:TypeId}{d:TypeDesc}{a b:Int}(hu:P.underlying t=some d) (c:db fr x (.int .i64 a)) (f:db fr y (.int .i64 b)):Xe P (Oper.mk dst (.call { callee:=.builtin .min,args:=#[x,y],argTypes:=#[t,Wc] }) ty pos after g) fr (.int .i64 (min a b)):=⟨fun ds w=>by
 have i:=c ds;have j:=f ds;have e:min a b=if b<a then b else a:=by simp only [Int.min_def];split<;>split<;>omega
 rw [e];by_cases h:b<a<;>simp [execOp,resolve,invoke,builtin,i,j,Builtin.min_,Builtin.min2,h]⟩
theorem TG {x y:Operand}{t Wc:TypeId}{d:TypeDesc}{a b:Int}(hu:P.underlying t=some d) (c:db fr x (.int .i64 a)) (f:db fr y (.int .i64 b)):Xe P (Oper.mk dst (.call { callee:=.builtin .max,args:=#[x,y],argTypes:=#[t,Wc] }) ty pos after g) fr (.int .i64 (max a b)):=⟨fun ds w=>by
 have i:=c ds;have j:=f ds;have e:max a b=if a<b then b else a:=by simp only [Int.max_def];split<;>split<;>omega
 rw [e];by_cases h:a<b<;>simp [execOp,resolve,invoke,builtin,i,j,Builtin.max_,Builtin.max2,h]⟩
theorem MH {t:TypeId}{Vk rs:Array TypeId}{a:Bool}(hu:P.underlying t=some (.func Vk rs a)):mm P 1 t .nilFunc .nilFunc true:=⟨fun d w pb=>by
 cases d with
 | zero=>omega
 | succ d=>simp [Op.equalIn,run_underlying hu]⟩
theorem NH {t e:TypeId}(hu:P.underlying t=some (.pointer e)):mm P 1 t (.pointer none) (.pointer none) true:=⟨fun d w pb=>by
 cases d with
 | zero=>omega
 | succ d=>simp [Op.equalIn,run_underlying hu]⟩
theorem gE {x:Operand}{t Wc:TypeId}{Vk rs:Array TypeId}{a:Bool}(hu:P.underlying t=some (.func Vk rs a)) (b:db fr x .nilFunc):Xe P (Oper.mk dst (.binOp .neq t x (.const .nilFunc) Wc) ty pos after g) fr (.bool false):=⟨fun ds w=>by
 have c:=b ds;have d:(F fr ds).eval (.const .nilFunc)=.nilFunc:=rfl;have e:=(MH hu).out Op.maxDepth w (by decide);simp [execOp,c,d,eqGuard,binOp,Op.equal,e]⟩
theorem hE {x:Operand}{t Wc e:TypeId}(hu:P.underlying t=some (.pointer e)) (a:db fr x (.pointer none)):Xe P (Oper.mk dst (.binOp .eql t x (.const (.pointer none)) Wc) ty pos after g) fr (.bool true):=⟨fun ds w=>by
 have b:=a ds;have c:(F fr ds).eval (.const (.pointer none))=.pointer none:=rfl;have d:=(NH hu).out Op.maxDepth w (by decide);simp [execOp,b,c,eqGuard,binOp,Op.equal,d]⟩
theorem iE {x:Operand}{t Wc e:TypeId}(hu:P.underlying t=some (.pointer e)) (a:db fr x (.pointer none)) (b:Ze fr dst (.bool true) U) (h:K U ds w):Ed P (Oper.mk dst (.binOp .eql t x (.const (.pointer none)) Wc) ty pos after g) fr ds w K Q:=sa (hE hu a) b h
end
end Go.Xc
namespace Go.Xc
open Go.bc Go.RowKit
section
variable {P:Program}{Q:Exit→Act→World→Prop}{K:List Value→List Deferred→World→Prop}{fr U:List Value}{ds:List Deferred}{w w':World}
variable {dst:Option Tmp}{ty:TypeId}{pos:String}{after:Array Edge}{g:Option (Nat×Bool)}
variable {w0:World}{rs rs':List jb}{μ I:M}
variable {T:TypeId}{d:TypeDesc}{zf:Bool}{td:List Value}{n m:Nat}
def uu (n:Int):Option Nat:=if 0<n∧n≤65536 then some n.toNat else none
theorem BF {n:Int}{k:Nat}(h:uu n=some k):n=k∧0<k∧k≤65536:=by
 unfold uu at h;split at h
 ·rename_i hc;have:=Option.some.inj h;omega
 ·cases h
theorem BB {x:Operand}{t e:TypeId}(a:P.underlying t=some (.slice e)) (b:db fr x (.slice none 0 0)):Xe P (Oper.mk dst (.call { callee:=.builtin .cap,args:=#[x],argTypes:=#[t] }) ty pos after g) fr ((.int .i64 0)):=by
 refine ⟨fun ds w=>?_⟩;have c:=b ds;simp [execOp,c,resolve,invoke,builtin,Builtin.cap_,run_underlying a,goInt]
theorem CF {sz:Nat}:dn (.slice none 0 0) sz none (some 0) (.slice none 0 0):=⟨none,0,0,rfl,by decide,by decide,by decide,rfl⟩
theorem uD (z:List Value):∀ k,(Builtin.zeroCells z.toArray k).toList=(List.replicate k z).flatten:=by
 intro k;simp only [Builtin.zeroCells,Array.toList_map,Array.toList_range,List.size_toArray]
 induction k with
 | zero=>simp
 | succ k b =>
  rw [List.replicate_succ',List.flatten_append,← b,Nat.add_mul,Nat.one_mul,List.range_add,List.map_append,List.flatten_cons,List.flatten_nil,List.append_nil,List.map_map];congr 1;apply List.ext_getElem?;intro i;rw [List.getElem?_map];by_cases a:i<z.length
  ·rw [List.getElem?_range a];simp [Nat.mod_eq_of_lt a,a]
  ·rw [List.getElem?_eq_none (by simp;omega),List.getElem?_eq_none (by omega)];rfl
theorem bB {α:Type}[Va α]{z:List Value}{x:α}(h:∀ μ:M,Va.cs μ z x):∀ k,na μ (List.replicate k z).flatten (List.replicate k x)
 | 0=>rfl
 | k+1=>⟨z,_,rfl,h μ,bB h k⟩
theorem UG {t f e:TypeId}{x y:Operand}{z:List Value}{sz bytes k:Nat}{a:IntKind}{n:Int}(q:P.underlying t=some (.slice e)) (r:P.underlying f=some (.int a)) (s:kc P e zf z sz bytes) (j:(decide (bytes≤4096) && (z.length == sz && decide (0<sz)))=true)
  (u:db fr x (.slice none 0 0)) (A:db fr y (.int a n)) (B:uu n=some k) (C:ka μ w0 w rs)
  (h:∀ b c w',ka μ w0 w' (.row (.slice (some ⟨b,0,none⟩) k c) e sz k (List.replicate k z).flatten::rs)→Ng fr dst (.slice (some ⟨b,0,none⟩) k c) fun U=>K U ds w') :
  Ed P (Oper.mk dst (.call { callee:=.builtin .append,args:=#[x,y],argTypes:=#[t,f] }) ty pos after g) fr ds w K Q:=by
 obtain ⟨rfl,D,F⟩:=BF B;simp only [Bool.and_eq_true,beq_iff_eq,decide_eq_true_eq] at j;obtain ⟨G,l,H⟩:=j;obtain ⟨i,d,M,N,R,S,T⟩:=s.inf;subst S;subst T;have Y:k*i.bytes≤65536*4096:=Nat.mul_le_mul F G;have V:=Go.Lib.run_append_nil_zeros (P:=P) w t f ty e i d a a q r M N k D H (by omega) (by omega);obtain ⟨U,pb⟩:=Sh fr dst (.slice (some ⟨w.heap.size,0,none⟩) k (grownCap w k 0 e));have m:=grownCap_ge w k 0 e;have W:grownCap w k 0 e≤maxLen:=grownCap_le_maxLen w k 0 e (by unfold maxLen;omega);have o:d.cells=z.toArray:=R;have p:((List.replicate k z).flatten).length=k*i.size:=by
  simp [l]
 have Ya:=u ds;have X:=A ds;have hmul:k*i.size≤grownCap w k 0 e*i.size:=Nat.mul_le_mul_right _ m;refine Bh (v:=.slice (some ⟨w.heap.size,0,none⟩) k (grownCap w k 0 e)) (w':=w.drew.alloc (.cells (Builtin.zeroCells d.cells k++Builtin.zeroCells d.cells (grownCap w k 0 e - k)) e)) ?_ pb (h _ _ _ ((C.drew (w':=w.drew) rfl rfl rfl rfl).alloc rfl ⟨p,.inr ⟨_,0,_,_,rfl,heap_alloc_new w.drew _,m,W,?_,?_⟩⟩) U pb)
 ·simp [execOp,resolve,invoke,builtin,Ya,X,V]
 ·simp only [Array.size_append,size_zeroCells,o,List.size_toArray,l,← Nat.add_mul,Nat.zero_add];exact Nat.mul_le_mul_right _ (by omega)
 ·rw [o,Array.toList_append,uD,List.drop_zero,← p];exact List.take_left
end
end Go.Xc
namespace Go.Xc
open Go.bc Go.RowKit
instance:Va UInt8 where
 sz:=1
 pos:=by decide
 cs _ l x:=l=[.int .u8 x.toNat]
 fh h:=by rw [h];rfl
 up _ h:=h
 sg h:=by rw [h];rfl
def Yy (l:List UInt8):Option Int:=if l.length≤9223372036854775806 then (match Lib.parseIntB 64 l with | .ok v=>some v | _=>none) else none
def ky (l sub:List UInt8):Option Bool:=if l.length<4294967281 then some (Lib.contains l sub) else none
end Go.Xc
namespace Go.Xc
open Go.bc Go.RowKit
section
variable {μ ej:M}{w0 w w':World}{rs:List jb}{T:TypeId}
def vu (w:World) (ej:M):Prop:=∀ w',ej w'→w.heap.size≤w'.heap.size∧∀ k,k<w.heap.size→w'.heap[k]?=w.heap[k]?
theorem _root_.Go.bc.Sep.borrow (h:ka μ w0 w rs):∃ ej,da μ ej∧ka ej w w []∧vu w ej:=by
 refine ⟨fun w'=>μ w'∧(w.heap.size≤w'.heap.size∧∀ k,k<w.heap.size→w'.heap[k]?=w.heap[k]?),fun _ hw=>hw.1,Sep.start w _ _ ?_,fun _ hw=>hw.2⟩;intro w' b c;exact ⟨h.si w' b fun k a _=>c k a trivial,b,fun k a=>c k a trivial⟩
theorem vu.holds {r:jb}(a:vu w ej) (h:r.holds w) (hw:ej w'):r.holds w':=holds_of h fun b c=>(a w' hw).2 b (Dz h c)
theorem _root_.Go.bc.Row.shape {v:Value}{sz n:Nat}{xs:List Value}(h:Row w v T sz n xs):∃ a c,v=.slice a n c:=by
 rcases h.2 with ⟨rfl,rfl⟩ | ⟨g,o,cap,cur,rfl,-⟩
 ·exact ⟨_,_,rfl⟩
 ·exact ⟨_,_,rfl⟩
theorem _root_.Go.bc.Row.rd {α:Type}[Va α]{a:Option Addr}{c:Nat}{cells:List Value}{l:List α}(k:vu w ej) (hle:da μ ej) (h:Row w (.slice a l.length c) T (Va.sz α) l.length cells) (m:na μ cells l):Ca ej a c l:=by
 have n:∀ w',ej w'→Row w' (.slice a l.length c) T (Va.sz α) l.length cells:=fun w' hw=>k.holds (r:=.row (.slice a l.length c) T (Va.sz α) l.length cells) h hw;rcases h.2 with ⟨e,p⟩ | ⟨g,o,cap,cur,e,A,q,s,B,C⟩
 ·obtain rfl:=List.eq_nil_of_length_eq_zero p;obtain ⟨rfl,-,rfl⟩:=Value.slice.inj e;exact Ca.nil
 ·obtain ⟨rfl,-,rfl⟩:=Value.slice.inj e;refine ⟨q,s,.inr ⟨g,o,rfl,fun i=>(cells.drop (i*Va.sz α)).take (Va.sz α),fun i x f=>⟨?_,Va.up hle (m.get f)⟩⟩⟩;intro t v j u d;have y:0<l.length:=by have:=(List.getElem?_eq_some_iff.1 f).1;omega
  obtain ⟨b,D,c,Nb,hc⟩:=(n t v).Xk y;simp at Nb;obtain ⟨⟨rfl,rfl⟩,rfl⟩:=Nb;have z:j<Va.sz α:=by
   have:=(List.getElem?_eq_some_iff.1 d).1;simp at this;omega
  rw [List.getElem?_take_of_lt z,List.getElem?_drop] at d;have:=hc _ u d;rw [← Nat.add_assoc] at this;exact this
end
section
variable {P:Program}{Q:Exit→Act→World→Prop}{K:List Value→List Deferred→World→Prop}{fr U:List Value}{ds:List Deferred}{w w':World}
variable {dst:Option Tmp}{ty:TypeId}{pos:String}{after:Array Edge}{g:Option (Nat×Bool)}{T:TypeId}{zf:Bool}{td:List Value}{rs rs':List jb}{μ:M}{w0:World}
end
end Go.Xc
namespace Go.Xc
open Go.bc Go.RowKit
theorem uc {α:Type}{c:Prop}[Decidable c]{y:Option α}{r:α}{G:Prop}(h:(if c then none else y)=some r) (hc:c):G:=by rw [if_pos hc] at h;cases h
theorem Vg {α:Type}{c:Prop}[Decidable c]{x:Option α}{r:α}{G:Prop}(h:(if c then x else none)=some r) (hc:¬ c):G:=by rw [if_neg hc] at h;cases h
section
variable {P:Program}{Q Q':Exit→Act→World→Prop}{fr U:List Value}{ds:List Deferred}{w:World}{ops:Array Oper}{y:Code}{id:Nat}{l:List Oper}
theorem la (h:Ee P y Q' fr ds w):Gf P ops (Exit.then (rm P y Q') Q) [] fr ds w:=va (ma h)
theorem II (h:Ee P y Q' fr ds w):ni P ops (Exit.then (rm P y Q') Q) [] fr ds w:=DG (ma h)
theorem ea (h:Gf P l.toArray (Exit.then (rm P y Q) Q) l fr ds w):Ee P (.seq (.region id l.toArray false) y) Q fr ds w:=ya (Ba h)
theorem cb (h:Gf P l.toArray (Exit.then (rm P y Q') Q') l fr ds w):Gf P ops (Exit.then (rm P (.seq (.region id l.toArray false) y) Q') Q) [] fr ds w:=va (ma (ya (Ba h)))
theorem Za {x:Code}(h:Ee P x (Exit.then (rm P y Q') Q') fr ds w):Gf P ops (Exit.then (rm P (.seq x y) Q') Q) [] fr ds w:=va (ma (ya h))
variable {R R':List Nat}{dst:Tmp}{op:Op}{ty:TypeId}{pos:String}{after:Array Edge}{v:Value}{xc:List Mon}{j d:Nat}{b kg:Bool}
theorem sC (i:Nat) (he:(decide R.Nodup && enabled ops R i && apart ops false R i,R.erase i,ops[i]?)=(true,R',some ⟨some dst,op,ty,pos,after,none⟩)) (Nb:Xe P ⟨some dst,op,ty,pos,after,none⟩ fr v) (a:sc fr dst v U) (h:ni P ops Q R' U ds w) (b:Uh Q dst:=by first | exact fun _ _ _ _ _ h=>h | exact Eb fun _ _ _ h=>h.2 | exact Eb fun _ _ _ h=>h.2.2):ni P ops Q R fr ds w:=JH b (congrArg (·.1) he) (congrArg (·.2.1) he) (congrArg (·.2.2) he) Nb a h
theorem tC (i:Nat) (S:List Nat) (he:(decide R.Nodup && enabled ops R i && waits ops R S i && au ops S R i,R.erase i,ops[i]?)=(true,R',some ⟨some dst,op,ty,pos,after,none⟩)) (Nb:Ak P ⟨some dst,op,ty,pos,after,none⟩ fr w v) (a:sc fr dst v U) (h:ni P ops Q R' U ds w) (b:Uh Q dst:=by first | exact fun _ _ _ _ _ h=>h | exact Eb fun _ _ _ h=>h.2 | exact Eb fun _ _ _ h=>h.2.2):ni P ops Q R fr ds w:=KG S b (congrArg (·.1) he) (congrArg (·.2.1) he) (congrArg (·.2.2) he) Nb a h
theorem gd (i:Nat) (S:List Nat) (he:(decide R.Nodup && enabled ops R i && waits ops R S i && Kj ops S R i && S.contains i,R.erase i,ops[i]?)=(true,R',some ⟨some dst,op,ty,pos,after,none⟩)) (Nb:Xe P ⟨some dst,op,ty,pos,after,none⟩ fr v) (a:sc fr dst v U) (h:Zf P ops Q xc R' U ds w) (b:Uh Q dst:=by first | exact fun _ _ _ _ _ h=>h | exact Eb fun _ _ _ h=>h.2 | exact Eb fun _ _ _ h=>h.2.2):Zf P ops Q xc R fr ds w:=uf S b (congrArg (·.1) he) (congrArg (·.2.1) he) (congrArg (·.2.2) he) Nb a h
theorem df (i:Nat) (S:List Nat) (he:(decide R.Nodup && enabled ops R i && waits ops R S i && Kj ops S R i && S.contains i,R.erase i,ops[i]?)=(true,R',some ⟨some dst,op,ty,pos,after,some (j,b)⟩)) (a:(ops[j]?).bind (·.dst)=some d) (c:oc fr d (.bool b)) (Nb:Xe P ⟨some dst,op,ty,pos,after,some (j,b)⟩ fr v) (e:sc fr dst v U) (h:Zf P ops Q xc R' U ds w) (f:Uh Q dst:=by first | exact fun _ _ _ _ _ h=>h | exact Eb fun _ _ _ h=>h.2 | exact Eb fun _ _ _ h=>h.2.2):Zf P ops Q xc R fr ds w:=Qi S f (congrArg (·.1) he) (congrArg (·.2.1) he) (congrArg (·.2.2) he) a c Nb e h
theorem Bd (i:Nat) (S:List Nat) (he:(decide R.Nodup && enabled ops R i && waits ops R S i && Kj ops S R i && S.contains i,R.erase i,ops[i]?)=(true,R',some ⟨some dst,op,ty,pos,after,some (j,b)⟩)) (a:(ops[j]?).bind (·.dst)=some d) (c:oc fr d (.bool kg)) (e:(kg == b)=false) (f:sc fr dst undef U) (h:Zf P ops Q xc R' U ds w) (g:Uh Q dst:=by first | exact fun _ _ _ _ _ h=>h | exact Eb fun _ _ _ h=>h.2 | exact Eb fun _ _ _ h=>h.2.2):Zf P ops Q xc R fr ds w:=mf S g (congrArg (·.1) he) (congrArg (·.2.1) he) (congrArg (·.2.2) he) a c e f h
theorem Ni (i:Nat) (S:List Nat) (he:(decide R.Nodup && enabled ops R i && waits ops R S i && Kj ops S R i && S.contains i,R.erase i,ops[i]?)=(true,R',some ⟨some dst,op,ty,pos,after,some (j,b)⟩)) (a:(ops[j]?).bind (·.dst)=some d) (c:oc fr d undef) (e:sc fr dst undef U) (h:Zf P ops Q xc R' U ds w) (f:Uh Q dst:=by first | exact fun _ _ _ _ _ h=>h | exact Eb fun _ _ _ h=>h.2 | exact Eb fun _ _ _ h=>h.2.2):Zf P ops Q xc R fr ds w:=LG S f (congrArg (·.1) he) (congrArg (·.2.1) he) (congrArg (·.2.2) he) a c e h
theorem Xa (i:Nat) (S:List Nat) (he:(decide R.Nodup && enabled ops R i && waits ops R S i && Kj ops S R i && S.contains i,R.erase i,ops[i]?)=(true,R',some ⟨some dst,op,ty,pos,after,none⟩)) (Nb:Ak P ⟨some dst,op,ty,pos,after,none⟩ fr w v) (a:sc fr dst v U) (h:Zf P ops Q ((S,fun w'=>Ak P ⟨some dst,op,ty,pos,after,none⟩ fr w' v)::xc) R' U ds w) (b:Uh Q dst:=by first | exact fun _ _ _ _ _ h=>h | exact Eb fun _ _ _ h=>h.2 | exact Eb fun _ _ _ h=>h.2.2):Zf P ops Q xc R fr ds w:=Kk S b (congrArg (·.1) he) (congrArg (·.2.1) he) (congrArg (·.2.2) he) Nb a h
theorem Ji (i:Nat) (S:List Nat) (he:(decide R.Nodup && enabled ops R i && waits ops R S i && Kj ops S R i && S.contains i,R.erase i,ops[i]?)=(true,R',some ⟨some dst,op,ty,pos,after,some (j,b)⟩)) (a:(ops[j]?).bind (·.dst)=some d) (c:oc fr d (.bool b)) (Nb:Ak P ⟨some dst,op,ty,pos,after,some (j,b)⟩ fr w v) (e:sc fr dst v U) (h:Zf P ops Q ((S,fun w'=>Ak P ⟨some dst,op,ty,pos,after,some (j,b)⟩ fr w' v)::xc) R' U ds w) (f:Uh Q dst:=by first | exact fun _ _ _ _ _ h=>h | exact Eb fun _ _ _ h=>h.2 | exact Eb fun _ _ _ h=>h.2.2):Zf P ops Q xc R fr ds w:=hq S f (congrArg (·.1) he) (congrArg (·.2.1) he) (congrArg (·.2.2) he) a c Nb e h
end
class vk (l:List Value) (n:Nat) (v:outParam Value):Prop where out:oc l n v
instance {v:Value}{l:List Value}:vk (v::l) 0 v:=⟨rfl⟩
instance {a v:Value}{l:List Value}{n:Nat}[h:vk l n v]:vk (a::l) (n+1) v:=⟨h.out⟩
instance (priority:=2000){c0 a c2 c3 c4 c5 zd bh Bi c9 v:Value}{l:List Value}{n:Nat}[h:vk l n v]:vk (c0::a::c2::c3::c4::c5::zd::bh::Bi::c9::l) (n+10) v:=⟨h.out⟩
class bf (l:List Value) (n:Nat) (v:Value) (a:outParam (List Value)):Prop where out:sc l n v a
instance {a v:Value}{l:List Value}:bf (a::l) 0 v (v::l):=⟨rfl⟩
instance {a v:Value}{l b:List Value}{n:Nat}[h:bf l n v b]:bf (a::l) (n+1) v (a::b):=⟨congrArg (a::·) h.out⟩
instance (priority:=2000){c0 a c2 c3 c4 c5 zd bh Bi c9 v:Value}{l b:List Value}{n:Nat}[h:bf l n v b]:bf (c0::a::c2::c3::c4::c5::zd::bh::Bi::c9::l) (n+10) v (c0::a::c2::c3::c4::c5::zd::bh::Bi::c9::b):=⟨congrArg (c0::a::c2::c3::c4::c5::zd::bh::Bi::c9::·) h.out⟩
class Dc (fr:List Value) (x:Operand) (v:outParam Value):Prop where out:db fr x v
instance {fr:List Value}{n:Nat}{v:Value}[h:vk fr n v]:Dc fr (.tmp n) v:=⟨aa h.out⟩
instance {fr:List Value}{v:Value}:Dc fr (.const v) v:=⟨ua⟩
class cj (P:Program) (op:Op) (fr:List Value) (v:outParam Value):Prop where out:∀ dst ty pos after g,Xe P (Oper.mk dst op ty pos after g) fr v
section
variable {P:Program}{fr:List Value}{x y c:Operand}{v:Value}{t Wc:TypeId}{k:IntKind}{a b:Int}
instance [h:Dc fr x v]:cj P (.move x) fr v:=⟨fun _ _ _ _ _=>Kg h.out⟩
instance [h:Dc fr x v]:cj P (.assign x) fr v:=⟨fun _ _ _ _ _=>vw h.out⟩
instance {a:Addr}[h:Dc fr x (.pointer (some a))]:cj P (.nilCheck x) fr (.pointer (some a)):=⟨fun _ _ _ _ _=>Gh h.out⟩
instance [c:Dc fr x (.int k a)] [d:Dc fr y (.int k b)]:cj P (.binOp .eql t x y Wc) fr (.bool (decide (a=b))):=⟨fun _ _ _ _ _=>mu c.out d.out⟩
instance [c:Dc fr x (.int k a)] [d:Dc fr y (.int k b)]:cj P (.binOp .neq t x y Wc) fr (.bool (decide (a≠b))):=⟨fun _ _ _ _ _=>QB c.out d.out⟩
instance [c:Dc fr x (.int k a)] [d:Dc fr y (.int k b)]:cj P (.binOp .lss t x y Wc) fr (.bool (decide (a<b))):=⟨fun _ _ _ _ _=>mq c.out d.out⟩
instance [c:Dc fr x (.int k a)] [d:Dc fr y (.int k b)]:cj P (.binOp .leq t x y Wc) fr (.bool (decide (a≤b))):=⟨fun _ _ _ _ _=>PB c.out d.out⟩
instance [c:Dc fr x (.int k a)] [d:Dc fr y (.int k b)]:cj P (.binOp .gtr t x y Wc) fr (.bool (decide (b<a))):=⟨fun _ _ _ _ _=>Mo c.out d.out⟩
instance [c:Dc fr x (.int k a)] [d:Dc fr y (.int k b)]:cj P (.binOp .geq t x y Wc) fr (.bool (decide (b≤a))):=⟨fun _ _ _ _ _=>hy c.out d.out⟩
end
section
variable {P:Program}{Q:Exit→Act→World→Prop}{fr U:List Value}{ds:List Deferred}{w:World}{ops:Array Oper}{rest:List Oper}{d:Tmp}{op:Op}{ty:TypeId}{pos:String}{after:Array Edge}{v:Value}
theorem st [hu:cj P op fr v] [a:bf fr d v U] (h:Gf P ops Q rest U ds w):Gf P ops Q (⟨some d,op,ty,pos,after,none⟩::rest) fr ds w:=wl (sa (hu.out _ _ _ _ _) (ia a.out) h)
end
class sk (fr:List Value) (xs:List Operand) (vs:outParam (List Value)):Prop where out:uk fr xs vs
instance {fr:List Value}:sk fr [] []:=⟨nc⟩
instance {fr:List Value}{x:Operand}{v:Value}{xs:List Operand}{vs:List Value}[h:Dc fr x v] [k:sk fr xs vs]:sk fr (x::xs) (v::vs):=⟨Ya h.out k.out⟩
section
variable {P:Program}{fr:List Value}{x y c:Operand}{v:Value}{t Wc T:TypeId}{b:Nat}{o off i:Nat}{vs:List Value}{q:Bool}
instance [a:Sc P T i off] [h:Dc fr x (.pointer (some ⟨b,o,none⟩))]:cj P (.fieldAddr T x i) fr (.pointer (some ⟨b,o+off,none⟩)):=⟨fun _ _ _ _ _=>Qg a h.out rfl⟩
instance [hc:Dc fr c (.bool true)] [h:Dc fr x v]:cj P (.pick c x y) fr v:=⟨fun _ _ _ _ _=>Vl hc.out h.out⟩
instance [hc:Dc fr c (.bool false)] [h:Dc fr y v]:cj P (.pick c x y) fr v:=⟨fun _ _ _ _ _=>Xp hc.out h.out⟩
instance [h:Dc fr x (.bool q)]:cj P (.unOp .not t x) fr (.bool (!q)):=⟨fun _ _ _ _ _=>FH h.out⟩
instance [h:Dc fr x (.tuple ⟨vs⟩)] [k:vk vs i v]:cj P (.extract x i) fr v:=⟨fun _ _ _ _ _=>BG h.out k.out⟩
end
section
variable {P:Program}{Q:Exit→Act→World→Prop}{fr U:List Value}{ds:List Deferred}{w:World}{ops:Array Oper}{rest:List Oper}{d:Tmp}{op:Op}{ty:TypeId}{pos:String}{after:Array Edge}{v:Value}{j e:Nat}{b kg:Bool}
theorem Ea [hu:cj P op fr v] [a:bf fr d v U] (c:(ops[j]?).bind (·.dst)=some e) [f:vk fr e (.bool b)] (h:Gf P ops Q rest U ds w):Gf P ops Q (⟨some d,op,ty,pos,after,some (j,b)⟩::rest) fr ds w:=Ob c f.out (sa (hu.out _ _ _ _ _) (ia a.out) h)
theorem pa [a:bf fr d undef U] (c:(ops[j]?).bind (·.dst)=some e) [f:vk fr e (.bool kg)] (g:(kg == b)=false) (h:Gf P ops Q rest U ds w):Gf P ops Q (⟨some d,op,ty,pos,after,some (j,b)⟩::rest) fr ds w:=wn c f.out g (ia a.out) h
theorem xa {T:TypeId}{td:List Value}{n m o q:Nat}{x:Operand}[a:kc P T false td n m] (hc:w.cell? ⟨q,o,none⟩=some v) [b:Dc fr x (.pointer (some ⟨q,o,none⟩))] [c:bf fr d v U] (h:Gf P ops Q rest U ds w):Gf P ops Q (⟨some d,.load T x,ty,pos,after,none⟩::rest) fr ds w:=wl (ud a b.out hc (ia c.out) h)
theorem eg {T:TypeId}{td cs:List Value}{n m o q:Nat}{x:Operand}[a:kc P T true td n m] (hc:ui w q o cs) (b:cs.length=n) [c:Dc fr x (.pointer (some ⟨q,o,none⟩))] [e:bf fr d (.agg ⟨cs⟩) U] (h:Gf P ops Q rest U ds w):Gf P ops Q (⟨some d,.load T x,ty,pos,after,none⟩::rest) fr ds w:=wl (Gm a c.out hc b (ia e.out) h)
theorem Fa {dst:Option Tmp}{xs:List Operand}{tys:Array TypeId}{k:FuncId}{vs:List Value}{R:Value→World→Prop}[a:wb P k] [b:sk fr xs vs] (hc:nb P k vs w R) (h:∀ v w',R v w'→Ng fr dst v fun U=>Gf P ops Q rest U ds w') :
  Gf P ops Q (⟨dst,.call { callee:=.value (.func k),args:=⟨xs⟩,argTypes:=tys },ty,pos,after,none⟩::rest) fr ds w:=wl (nd a jd b.out hc h)
theorem ad {id:Nat}{l:List Oper}{μ:M}{w0:World}{rs:List jb}(a:ka μ w0 w rs) (h:∀ w',ka μ w0 w' rs→ni P l.toArray Q (List.range l.length) fr ds w') (hm:P.follows .mixedOrders=true:=by kernel_rfl) (b:(List.range l.toArray.size).all (fun i=>(bk l.toArray i).all fun j=>decide (j<i))=true:=by rfl):Ee P (.region id l.toArray true) Q fr ds w :=
 iy hm b fun w' c d e f=>h w' (a.drew c d e f)
theorem ja {v:Value}{K:List Value→Prop}[a:bf fr d v U] (h:K U):Ng fr (some d) v K:=pu (ia a.out) h
theorem Ln {R R':List Nat}(i:Nat) (he:(decide R.Nodup && enabled ops R i && apart ops false R i,R.erase i,ops[i]?)=(true,R',some ⟨some d,op,ty,pos,after,none⟩)) [Nb:cj P op fr v] [a:bf fr d v U] (h:ni P ops Q R' U ds w) (b:Uh Q d:=by first | exact fun _ _ _ _ _ h=>h | exact Eb fun _ _ _ h=>h.2 | exact Eb fun _ _ _ h=>h.2.2):ni P ops Q R fr ds w :=
 sC i he (Nb.out _ _ _ _ _) a.out h b
theorem ga {xc:List Mon}{R R':List Nat}(i:Nat) (S:List Nat) (he:(decide R.Nodup && enabled ops R i && waits ops R S i && Kj ops S R i && S.contains i,R.erase i,ops[i]?)=(true,R',some ⟨some d,op,ty,pos,after,none⟩)) [Nb:cj P op fr v] [a:bf fr d v U] (h:Zf P ops Q xc R' U ds w) (b:Uh Q d:=by first | exact fun _ _ _ _ _ h=>h | exact Eb fun _ _ _ h=>h.2 | exact Eb fun _ _ _ h=>h.2.2):Zf P ops Q xc R fr ds w :=
 gd i S he (Nb.out _ _ _ _ _) a.out h b
end
section
variable {rs rs':List jb}{O a2 a3 a4 a5 Hb ic hb a9 Td Cc a12 r:jb}
theorem ib:yd (O::r::rs) 1 (r::O::rs):=.s (yd.z)
theorem Jb:yd (O::a2::r::rs) 2 (r::O::a2::rs):=.s (.s (yd.z))
theorem Ka:yd (O::a2::a3::r::rs) 3 (r::O::a2::a3::rs):=.s (.s (.s (yd.z)))
theorem Pa:yd (O::a2::a3::a4::r::rs) 4 (r::O::a2::a3::a4::rs):=.s (.s (.s (.s (yd.z))))
theorem ae:yd (O::a2::a3::a4::a5::r::rs) 5 (r::O::a2::a3::a4::a5::rs):=.s (.s (.s (.s (.s (yd.z)))))
theorem yc:yd (O::a2::a3::a4::a5::Hb::r::rs) 6 (r::O::a2::a3::a4::a5::Hb::rs):=.s (.s (.s (.s (.s (.s (yd.z))))))
theorem Bg:yd (O::a2::a3::a4::a5::Hb::ic::r::rs) 7 (r::O::a2::a3::a4::a5::Hb::ic::rs):=.s (.s (.s (.s (.s (.s (.s (yd.z)))))))
end
section
variable {P:Program}{Q:Exit→Act→World→Prop}{fr Oh Ph:List Value}{ds:List Deferred}{w:World}{ops:Array Oper}{l:List Oper}{R:List Nat}{xc:List Mon}{c:Operand}{x y:Code}{p:Prop}[Decidable p]{b:Bool}{d:Nat}{α:Type}{A B:Option α}{r:α}
theorem kb (h:(if p then A else B)=some r) [hc:Dc fr c (.bool (decide p))] (a:p→A=some r→Ee P x Q fr ds w) (b:¬ p→B=some r→Ee P y Q fr ds w):Ee P (.cond c x y) Q fr ds w:=Jc hc.out (fun q=>a q (cg q h)) (fun q=>b q (Yb q h))
theorem Oe (h:(if b=true then A else B)=some r) [hc:Dc fr c (.bool b)] (a:b=true→A=some r→Ee P x Q fr ds w) (d:¬ b=true→B=some r→Ee P y Q fr ds w):Ee P (.cond c x y) Q fr ds w:=Ch hc.out (fun q=>a q (cg q h)) (fun q=>d q (Yb q h))
theorem Nl (h:(if b=true then A else B)=some r) [hc:Dc fr c (.bool (!b))] (a:¬ b=true→B=some r→Ee P x Q fr ds w) (d:b=true→A=some r→Ee P y Q fr ds w):Ee P (.cond c x y) Q fr ds w:=El hc.out (fun q=>a q (Yb q h)) (fun q=>d q (cg q h))
theorem cf (d:Nat) (h:(if p then A else B)=some r) [a:vk fr d (.bool (decide p))] [b:bf fr d (.bool true) Oh] [c:bf fr d (.bool false) Ph] (e:p→A=some r→Gf P ops Q l Oh ds w) (f:¬ p→B=some r→Gf P ops Q l Ph ds w):Gf P ops Q l fr ds w:=oh a.out b.out c.out (fun q=>e q (cg q h)) (fun q=>f q (Yb q h))
theorem oz (d:Nat) (h:(if b=true then A else B)=some r) [a:vk fr d (.bool b)] [c:bf fr d (.bool true) Oh] [e:bf fr d (.bool false) Ph] (f:b=true→A=some r→Gf P ops Q l Oh ds w) (g:¬ b=true→B=some r→Gf P ops Q l Ph ds w):Gf P ops Q l fr ds w:=wI a.out c.out e.out (fun q=>f q (cg q h)) (fun q=>g q (Yb q h))
theorem Iq (d:Nat) (h:(if b=true then A else B)=some r) [a:vk fr d (.bool (!b))] [c:bf fr d (.bool true) Oh] [e:bf fr d (.bool false) Ph] (f:¬ b=true→B=some r→Gf P ops Q l Oh ds w) (g:b=true→A=some r→Gf P ops Q l Ph ds w):Gf P ops Q l fr ds w:=TB a.out c.out e.out (fun q=>f q (Yb q h)) (fun q=>g q (cg q h))
theorem Sk (d:Nat) (h:(if p then A else B)=some r) [a:vk fr d (.bool (decide p))] [b:bf fr d (.bool true) Oh] [c:bf fr d (.bool false) Ph] (e:p→A=some r→Zf P ops Q xc R Oh ds w) (f:¬ p→B=some r→Zf P ops Q xc R Ph ds w):Zf P ops Q xc R fr ds w:=jC a.out b.out c.out (fun q=>e q (cg q h)) (fun q=>f q (Yb q h))
end
abbrev Me (l:List Value):List Value:=undef::l
abbrev Oc (l:List Value):List Value:=undef::undef::l
abbrev Kd (l:List Value):List Value:=undef::undef::undef::undef::undef::l
abbrev Le (l:List Value):List Value:=undef::undef::undef::undef::undef::undef::undef::undef::undef::undef::l
abbrev Yd (l:List Value):List Value:=undef::undef::undef::undef::undef::undef::undef::undef::undef::undef::undef::undef::undef::undef::undef::undef::undef::undef::undef::undef::l
abbrev ke (l:List Value):List Value:=undef::undef::undef::undef::undef::undef::undef::undef::undef::undef::undef::undef::undef::undef::undef::undef::undef::undef::undef::undef::undef::undef::undef::undef::undef::undef::undef::undef::undef::undef::undef::undef::undef::undef::undef::undef::undef::undef::undef::undef::undef::undef::undef::undef::undef::undef::undef::undef::undef::undef::l
end Go.Xc
namespace Go.Xc
theorem Ha {α : Type}{a b : α}(h : some a = some b) : a = b := Option.some.inj h
abbrev rg : Nat → Nat → List Nat := fun a b => List.range' a b
end Go.Xc
