/- Texts of Xu. -/
import Derived.Test.YtfmlfolepjbgaaaGreatDoorCXt
import Derived.Laws.MakeOwn
import Derived.Laws.CopyRow
import Derived.Shelf.Strconv.ParseIntPublic10
import Derived.Lib.IndexMore
set_option linter.unusedSimpArgs false
set_option linter.unusedVariables false
set_option linter.unusedSectionVars false
namespace Go.sd
open Go.oc Go.RowKit
theorem ua.split {α:Type}[Sa α]{μ:M}:∀ {l:List α}{cells:List Value}{i:Nat}{x:α},ua μ cells l→l[i]?=some x →
  ∃ b cs Wg,cells=b++(cs++Wg)∧b.length=i*Sa.sz α∧Sa.cs μ cs x∧∀ (la:M) (a:List Value) (d:α),ea μ la→Sa.cs la a d→ua la (b++(a++Wg)) (l.set i d)
 | [],cells,i,x,h,c=>by simp at c
 | y::l,cells,i,x,h,c=>by
  rw [ua] at h;obtain ⟨cs,t,rfl,f,j⟩:=h;cases i with
  | zero =>
   simp at c;subst c;exact ⟨[],cs,t,rfl,by simp,f,fun la a d qa g=>⟨a,t,rfl,g,j.up qa⟩⟩
  | succ i =>
   simp at c;obtain ⟨b,pt,Wg,rfl,e,m,st⟩:=ua.split j c;exact ⟨cs++b,pt,Wg,by simp,by simp [e,Sa.vg f,Nat.add_mul];omega,m,fun la a d qa g=>⟨cs,b++(a++Wg),by simp,Sa.up qa f,st la a d qa g⟩⟩
theorem _root_.Go.oc.Row.Uj {α:Type}[Sa α]{w:World}{T:TypeId}{n:Nat}{μ:M}{v:Value}{cells:List Value}{l:List α}{i:Int}{x:α}(h:Row w v T (Sa.sz α) n cells) (f:ua μ cells l) (z:l.length=n) (g:at_ l i=some x) :
  ∃ b o a cs Wg,cells=a++(cs++Wg)∧lv v (Sa.sz α) i b o∧(∀ w T d,Row w v T (Sa.sz α) n (a++(d++Wg))→d.length=Sa.sz α→tj w b o d)∧Sa.cs μ cs x∧a.length=i.toNat*Sa.sz α ∧
   (∀ (la:M) (d:List Value) (k:α),ea μ la→Sa.cs la d k→ua la (a++(d++Wg)) (l.set i.toNat k))∧ua μ (a++(cs++Wg)) l:=by
 obtain ⟨q,A,r⟩:=Ju g;obtain ⟨b,o,c,rfl,B⟩:=h.Iu (by omega);obtain ⟨a,cs,Wg,rfl,e,m,st⟩:=f.split r;refine ⟨b,o+i.toNat*Sa.sz α,a,cs,Wg,rfl,⟨o,_,_,rfl,q,by omega,rfl⟩,?_,m,e,st,f⟩;intro C D d s qa j u p;obtain ⟨Ke,E,Db,Ab,t⟩:=s.Iu (by omega);simp at Ab;obtain ⟨⟨rfl,rfl⟩,rfl⟩:=Ab;have y:j<d.length:=(List.getElem?_eq_some_iff.1 p).1;have:=t (a.length+j) u (by rw [List.getElem?_append_right (by omega),show a.length+j - a.length=j by omega,List.getElem?_append_left y];exact p);rw [e,← Nat.add_assoc] at this;exact this
theorem Yr {a cs b Wg vs:List Value}{i off sz:Nat}(pl:a.length=i*sz) (h:cs.take off++vs++cs.drop (off+vs.length)=b) (qa:off+vs.length≤cs.length) :
  (a++(cs++Wg)).take (i*sz+off)++vs++(a++(cs++Wg)).drop (i*sz+off+vs.length)=a++(b++Wg):=by
 subst h;rw [← pl,Nat.add_assoc,List.take_append,List.drop_append];simp [List.take_append_of_le_length (show off≤cs.length by omega),List.drop_append_of_le_length qa,List.take_of_length_le (show a.length≤a.length+off by omega),List.drop_of_length_le (show a.length≤a.length+(off+vs.length) by omega)]
section
variable {P:Program}{Q:Exit→Act→World→Prop}{K:List Value→List Deferred→World→Prop}{fr Fa:List Value}{ds:List Deferred}{w:World}
variable {dst:Option Tmp}{ty:TypeId}{pos:String}{after:Array Edge}{g:Option (Nat×Bool)}
variable {J:World}{rs Lc:List dc}{μ la:M}
variable {T:TypeId}
theorem xe.two {es:List MapEntry}{c:Nat}{k0 k1:List UInt8}{x0 x1:Int}(h:xe μ es c [(k0,x0),(k1,x1)]) :
  ∃ u j,es=[⟨S k0,.int .i64 x0,u⟩,⟨S k1,.int .i64 x1,j⟩]∧u<j∧j<c:=by
 obtain ⟨e,l,m⟩:=h
 match es,e,l,m with
 | [],e,_,_=>simp [nf] at e
 | [a],e,_,_ =>
  rw [nf] at e;obtain ⟨k,x,t,g,-,-,f⟩:=e;simp [nf] at f g;simp [f] at g
 | [a,b],e,l,m =>
  rw [nf] at e;obtain ⟨k,x,t,g,n,o,f⟩:=e;rw [nf] at f;obtain ⟨w,y,qd,p,q,r,s⟩:=f;subst p;simp only [List.cons.injEq,Prod.mk.injEq] at g;obtain ⟨⟨rfl,rfl⟩,⟨rfl,rfl⟩,-⟩:=g;obtain ⟨z,A,v⟩:=a;obtain ⟨B,bv,i⟩:=b;have o:A=.int .i64 x0:=o;have r:bv=.int .i64 x1:=r;have n:z=S k0:=n;have q:B=S k1:=q;subst n q o r;have C:v<i:=List.rel_of_pairwise_cons m (List.mem_singleton.2 rfl);have D:i<c:=l ⟨S k1,.int .i64 x1,i⟩ (by simp);exact ⟨v,i,rfl,C,D⟩
 | a::b::d::es,e,_,_ =>
  rw [nf] at e;obtain ⟨k,x,t,g,-,-,f⟩:=e;rw [nf] at f;obtain ⟨w,y,qd,p,-,-,s⟩:=f;rw [nf] at s;obtain ⟨F,G,H,E,-,-,-⟩:=s;subst E p;simp at g
theorem Hs (w:World) (b:Nat) (o:Obj) (a:b<w.heap.size):Xh (fun k=>k≠b) w { w with heap:=w.heap.setIfInBounds b o }∧({ w with heap:=w.heap.setIfInBounds b o }:World).heap[b]?=some o :=
 ⟨⟨rfl,rfl,rfl,by simp,fun j _ c=>by simp [Array.getElem?_setIfInBounds,Ne.symm c]⟩,by simp [a]⟩
theorem dH {x:Operand}{b m c i k a d:Nat}{a0 v0 ta v1:Value}(o:zb fr x (.pointer (some ⟨b,0,none⟩))) (f:ka μ J w rs) (j:hc rs i (.nj b m c [] c)) (hm:hc rs k (.map m [⟨a0,v0,a⟩,⟨ta,v1,d⟩] c)) (B:a<d) (p:d<c)
  (y:∀ w' Lc,Hc rs i (.nj b m c [a] c) Lc→ka μ J w' Lc→Mg fr dst (.tuple ⟨[.bool true,a0,v0]⟩) fun Fa=>K Fa ds w')
  (z:∀ w' Lc,Hc rs i (.nj b m c [d] c) Lc→ka μ J w' Lc→Mg fr dst (.tuple ⟨[.bool true,ta,v1]⟩) fun Fa=>K Fa ds w') :
  De P (Oper.mk dst (.next x false) ty pos after g) fr ds w K Q:=by
 have h:w.heap[b]?=some (.mapIter (some m) c ⟨[]⟩ c):=f.get j;have q:w.heap[m]?=some (.map ⟨[⟨a0,v0,a⟩,⟨ta,v1,d⟩]⟩ c):=f.get hm;have r:b<w.heap.size:=(Array.getElem?_eq_some_iff.1 h).1;have s:w.drew.heap[b]?=some (.mapIter (some m) c ⟨[]⟩ c):=h;have t:a<c:=by omega
 have u:¬ a ≥ c:=by omega
 have v:¬ d ≥ c:=by omega
 by_cases ya:(w.tape w.drawn (.mapNext 2)) % 2=0
 ·obtain ⟨l,n⟩:=Hs w.drew b (.mapIter (some m) c ⟨[a]⟩ c) r;obtain ⟨Fa,e⟩:=Ph fr dst (.tuple ⟨[.bool true,a0,v0]⟩);refine sh (w':={ w.drew with heap:=w.drew.heap.setIfInBounds b (.mapIter (some m) c ⟨[a]⟩ c) }) ?_ e (y _ _ rfl ((f.drew (w':=w.drew) rfl rfl rfl rfl).put (b:=b) j rfl rfl rfl n l) Fa e);simp [execOp,o ds,Instr.next,getObj,setObj,Sem.run,h,q,Result.andThen,t,p,u,v,choose,Question.forced,Question.cut,ya,s]
 ·have A:(w.tape w.drawn (.mapNext 2)) % 2=1:=by omega
  obtain ⟨l,n⟩:=Hs w.drew b (.mapIter (some m) c ⟨[d]⟩ c) r;obtain ⟨Fa,e⟩:=Ph fr dst (.tuple ⟨[.bool true,ta,v1]⟩);refine sh (w':={ w.drew with heap:=w.drew.heap.setIfInBounds b (.mapIter (some m) c ⟨[d]⟩ c) }) ?_ e (z _ _ rfl ((f.drew (w':=w.drew) rfl rfl rfl rfl).put (b:=b) j rfl rfl rfl n l) Fa e);simp [execOp,o ds,Instr.next,getObj,setObj,Sem.run,h,q,Result.andThen,t,p,u,v,choose,Question.forced,Question.cut,A,s]
theorem eH {x:Operand}{b m c f k a d:Nat}{a0 v0 ta v1:Value}(o:zb fr x (.pointer (some ⟨b,0,none⟩))) (e:ka μ J w rs) (j:hc rs f (.nj b m c [a] c)) (hm:hc rs k (.map m [⟨a0,v0,a⟩,⟨ta,v1,d⟩] c)) (C:a<d) (p:d<c)
  (q:∀ w' Lc,Hc rs f (.nj b m c [a,d] c) Lc→ka μ J w' Lc→Mg fr dst (.tuple ⟨[.bool true,ta,v1]⟩) fun Fa=>K Fa ds w') :
  De P (Oper.mk dst (.next x false) ty pos after g) fr ds w K Q:=by
 have l:w.heap[b]?=some (.mapIter (some m) c ⟨[a]⟩ c):=e.get j;have r:w.heap[m]?=some (.map ⟨[⟨a0,v0,a⟩,⟨ta,v1,d⟩]⟩ c):=e.get hm;have s:b<w.heap.size:=(Array.getElem?_eq_some_iff.1 l).1;have t:¬ a ≥ c:=by omega
 have u:¬ d ≥ c:=by omega
 have v:¬ ∀ (i:Nat) (x:i<2),c≤([⟨a0,v0,a⟩,⟨ta,v1,d⟩]:List MapEntry)[i].born:=fun h=>by have:=h 0 (by decide);simp at this;omega
 have y:¬ d=a:=by omega
 have z:¬ a=d:=by omega
 obtain ⟨A,B⟩:=Hs w b (.mapIter (some m) c ⟨[a,d]⟩ c) s;obtain ⟨Fa,n⟩:=Ph fr dst (.tuple ⟨[.bool true,ta,v1]⟩);refine sh (w':={ w with heap:=w.heap.setIfInBounds b (.mapIter (some m) c ⟨[a,d]⟩ c) }) ?_ n (q _ _ rfl (e.put (b:=b) j rfl rfl rfl B A) Fa n);simp [execOp,o ds,Instr.next,getObj,setObj,Sem.run,l,r,Result.andThen,p,t,u,y,z,v,choose,Question.forced]
theorem jG {x:Operand}{b m c f k d a:Nat}{a0 v0 ta v1:Value}(o:zb fr x (.pointer (some ⟨b,0,none⟩))) (e:ka μ J w rs) (j:hc rs f (.nj b m c [a] c)) (hm:hc rs k (.map m [⟨a0,v0,d⟩,⟨ta,v1,a⟩] c)) (C:d<a) (D:a<c)
  (p:∀ w' Lc,Hc rs f (.nj b m c [a,d] c) Lc→ka μ J w' Lc→Mg fr dst (.tuple ⟨[.bool true,a0,v0]⟩) fun Fa=>K Fa ds w') :
  De P (Oper.mk dst (.next x false) ty pos after g) fr ds w K Q:=by
 have l:w.heap[b]?=some (.mapIter (some m) c ⟨[a]⟩ c):=e.get j;have q:w.heap[m]?=some (.map ⟨[⟨a0,v0,d⟩,⟨ta,v1,a⟩]⟩ c):=e.get hm;have r:b<w.heap.size:=(Array.getElem?_eq_some_iff.1 l).1;have s:d<c:=by omega
 have t:¬ d ≥ c:=by omega
 have u:¬ a ≥ c:=by omega
 have v:¬ ∀ (i:Nat) (x:i<2),c≤([⟨a0,v0,d⟩,⟨ta,v1,a⟩]:List MapEntry)[i].born:=fun h=>by have:=h 0 (by decide);simp at this;omega
 have y:¬ a=d:=by omega
 have z:¬ d=a:=by omega
 obtain ⟨A,B⟩:=Hs w b (.mapIter (some m) c ⟨[a,d]⟩ c) r;obtain ⟨Fa,n⟩:=Ph fr dst (.tuple ⟨[.bool true,a0,v0]⟩);refine sh (w':={ w with heap:=w.heap.setIfInBounds b (.mapIter (some m) c ⟨[a,d]⟩ c) }) ?_ n (p _ _ rfl (e.put (b:=b) j rfl rfl rfl B A) Fa n);simp [execOp,o ds,Instr.next,getObj,setObj,Sem.run,l,q,Result.andThen,s,t,u,y,z,v,choose,Question.forced]
theorem UB {x:Operand}{b m c f k d a p q:Nat}{a0 v0 ta v1:Value}(j:zb fr x (.pointer (some ⟨b,0,none⟩))) (e:ka μ J w rs) (l:hc rs f (.nj b m c [p,q] c)) (hm:hc rs k (.map m [⟨a0,v0,d⟩,⟨ta,v1,a⟩] c)) (z:d<a) (A:a<c) (n:p=d∧q=a∨p=a∧q=d)
  (ya:Vf fr dst (.tuple ⟨[.bool false]⟩) Fa) (h:K Fa ds w) :
  De P (Oper.mk dst (.next x false) ty pos after g) fr ds w K Q:=by
 have o:w.heap[b]?=some (.mapIter (some m) c ⟨[p,q]⟩ c):=e.get l;have r:w.heap[m]?=some (.map ⟨[⟨a0,v0,d⟩,⟨ta,v1,a⟩]⟩ c):=e.get hm;have s:¬ d ≥ c:=by omega
 have t:¬ a ≥ c:=by omega
 have u:¬ ∀ (i:Nat) (x:i<2),c≤([⟨a0,v0,d⟩,⟨ta,v1,a⟩]:List MapEntry)[i].born:=fun h=>by have:=h 0 (by decide);simp at this;omega
 have v:¬ a=d:=by omega
 have y:¬ d=a:=by omega
 refine sh (w':=w) ?_ ya h;rcases n with ⟨rfl,rfl⟩ | ⟨rfl,rfl⟩<;>simp [execOp,j ds,Instr.next,getObj,setObj,Sem.run,o,r,Result.andThen,s,t,v,y,u,choose,Question.forced]
theorem Fw {x:Operand}{b m c i k a d:Nat}{a0 v0 ta v1:Value}{seen:List Nat}{e:MapEntry}(j:zb fr x (.pointer (some ⟨b,0,none⟩))) (f:ka μ J w rs) (l:hc rs i (.nj b m c seen c)) (hm:hc rs k (.map m [⟨a0,v0,a⟩,⟨ta,v1,d⟩] c)) (s:a<d)
  (hs:seen.getLast?=some e.born) (he:e=⟨a0,v0,a⟩∨e=⟨ta,v1,d⟩) (ya:Vf fr dst (.tuple ⟨[e.key,e.val]⟩) Fa) (h:K Fa ds w) :
  De P (Oper.mk dst (.entry x) ty pos after g) fr ds w K Q:=by
 have n:w.heap[b]?=some (.mapIter (some m) c ⟨seen⟩ c):=f.get l;have o:w.heap[m]?=some (.map ⟨[⟨a0,v0,a⟩,⟨ta,v1,d⟩]⟩ c):=f.get hm;have p:¬ d=a:=by omega
 have q:¬ a=d:=by omega
 have r:(⟨seen⟩:Array Nat).back?=some e.born:=by rw [← hs];simp [Array.back?,List.getLast?_eq_getElem?]
 refine sh (w':=w) ?_ ya h;rcases he with rfl | rfl<;>simp [execOp,j ds,Instr.entry,getObj,Sem.run,n,o,Result.andThen,r,p,q]
end
end Go.sd
namespace Go.sd
open Go.oc Go.RowKit
section
variable {P:Program}{Q:Exit→Act→World→Prop}{K:List Value→List Deferred→World→Prop}{fr Fa:List Value}{ds:List Deferred}{w:World}
variable {dst:Option Tmp}{ty:TypeId}{pos:String}{after:Array Edge}{g:Option (Nat×Bool)}
structure VB (P:Program) (f:FuncId) (args:List Value) (w:World) (R:Value→World→Prop):Prop where
 out:CallsD P f ⟨args⟩ .returning w fun e a w'=>a=.returning∧okV R e w'
theorem wJ {fn:Func}{R a:Value→World→Prop}{k:FuncId}{cap vs:List Value}(b:vc P k) (d:VB P k (vs++cap) w a) (h:∀ v w',a v w'→Zs P fn R .ret (F fr ds) w') :
  Zs P fn R .ret (F fr (⟨.fn (.func k) ⟨cap⟩,⟨vs⟩⟩::ds)) w:=by
 refine ⟨by simp,.func k,⟨cap⟩,k,⟨vs++cap⟩,rfl,?_,?_⟩
 ·have:=b.out ⟨vs++cap⟩ w;simp [invoke,this]
 ·refine d.out.mono fun e f w' he=>?_;obtain ⟨rfl,he⟩:=he;cases e with
  | returned v=>exact h v w' he
  | panicked c=>exact he.elim
  | outgrown=>exact he.elim
theorem XH {P:Program}{T:TypeId}{ms:Array (String×TypeId)}{v:Value}{b:Bool}(hu:P.underlying T=some (.interface ms)) (Ab:(v=.nilIface∧b=true)∨((∃ a c,v=.iface a c)∧b=false)):Yq P 1 T v .nilIface b:=⟨fun d w ya=>by
 cases d with
 | zero=>omega
 | succ d=>rcases Ab with ⟨rfl,rfl⟩ | ⟨⟨a,c,rfl⟩,rfl⟩ <;> simp [Op.equalIn,run_underlying hu]⟩
theorem YH {x:Operand}{t qd:TypeId}{v:Value}{b:Bool}{ms:Array (String×TypeId)}(hu:P.underlying t=some (.interface ms)) (d:zb fr x v) (Ab:(v=.nilIface∧b=true)∨((∃ a c,v=.iface a c)∧b=false)) (e:Vf fr dst (.bool b) Fa) (k:K Fa ds w) :
  De P (Oper.mk dst (.binOp .eql t x (.const .nilIface) qd) ty pos after g) fr ds w K Q:=by
 refine Ea ⟨fun ds w=>?_⟩ e k;have f:=d ds;have h:(F fr ds).eval (.const .nilIface)=.nilIface:=rfl;have i:=(XH hu Ab).out Op.maxDepth w (by decide);rcases Ab with ⟨rfl,rfl⟩ | ⟨⟨a,c,rfl⟩,rfl⟩<;>simp [execOp,f,h,eqGuard,binOp,Op.equal,i]
end
end Go.sd
namespace Go.sd
open Go.oc Go.RowKit
def sK (agg:Bool) (cs:List Value):Value:=if agg then .agg ⟨cs⟩ else cs.headD undef
structure cq (P:Program) (I:M) (K:Nat) (e:List Value){α:Type}[Sa α] (agg:Bool) (f:α→Option Bool):Prop where
 kx:vc P K
 call:∀ {a:M}{J c:World}{rs:List dc}{x:α}{b:Bool}{cs:List Value},ea I a→Sa.cs a cs x→f x=some b→ka a J c rs→pc P K ([sK agg cs]++e) c (fun v w'=>∃ d,v=.bool b∧ea a d∧ka d J w' rs)
theorem cq.up {P:Program}{μ la:M}{K:Nat}{a:List Value}{α:Type}[Sa α]{agg:Bool}{b:α→Option Bool}(h:cq P μ K a agg b) (l:ea μ la):cq P la K a agg b:=⟨h.kx,fun qa=>h.call (l.t qa)⟩
end Go.sd
namespace Go.sd
open Go.oc Go.RowKit
section
variable {P : Program}{Q : Exit → Act → World → Prop}{K : List Value → List Deferred → World → Prop}{fr Fa : List Value}{ds : List Deferred}{w w' : World}
variable {dst : Option Tmp}{ty : TypeId}{pos : String}{after : Array Edge}{g : Option (Nat × Bool)}
variable {J : World}{rs Lc : List dc}{μ la : M}
variable {T : TypeId}{d : TypeDesc}{ag : Bool}{Vd : List Value}{n m : Nat}
theorem _root_.Go.oc.Sep.newRow {S Jd : Nat → Prop}{A : World → Prop}{v : Value}{sz k : Nat}{xs : List Value}(a : Sep S Jd J w rs A) (c : Grow w w') (f : Row w' v T sz k xs) (d : ∀ b, v.ownBlock = some b → w.heap.size ≤ b) :
    Sep S Jd J w' (.row v T sz k xs :: rs) A where
  keeps := a.keeps.trans c.keeps
  all r g := by
    rcases List.mem_cons.1 g with rfl | h
    · exact f
    · exact (a.grow c).all r h
  Zh := by
    cases Ab : v.ownBlock with
    | none => simp only [blocks, List.filterMap_cons, dc.block, Ab]; exact a.Zh
    | some b =>
      simp only [blocks, List.filterMap_cons, dc.block, Ab, List.nodup_cons];exact ⟨fun hm => by have := a.lt hm;have := d b Ab;omega, a.Zh⟩
  new b hm := by
    cases Ab : v.ownBlock with
    | none => simp only [blocks, List.filterMap_cons, dc.block, Ab] at hm; exact a.new b hm
    | some Ke =>
      simp only [blocks, List.filterMap_cons, dc.block, Ab, List.mem_cons] at hm;rcases hm with rfl | hm
      · exact .inl (Nat.le_trans a.keeps.size (d _ Ab))
      · exact a.new b hm
  Ki := fun i j l => a.Ki i (Nat.le_trans c.size j) fun k e hs => (l k (Nat.lt_of_lt_of_le e c.size) ⟨hs.1, fun hm => by
    cases Ab : v.ownBlock with
    | none => simp only [blocks, List.filterMap_cons, dc.block, Ab] at hm; exact hs.2 hm
    | some Ke =>
      simp only [blocks, List.filterMap_cons, dc.block, Ab, List.mem_cons] at hm;rcases hm with rfl | hm
      · have := d _ Ab;omega
      · exact hs.2 hm⟩).trans (c.ba k e trivial)
theorem Hx {e : TypeId}{sz k base : Nat}{v : Value}{xs : List Value}(h : w.ownsRow base e sz v k xs) : Row w v e sz k xs ∧ ∀ b, v.ownBlock = some b → base ≤ b := by
  obtain ⟨a, d⟩ := h;rcases d with ⟨rfl, rfl⟩ | ⟨g, cap, cur, rfl, c, f, i, j, n, l⟩
  · exact ⟨⟨a, .inl ⟨rfl, rfl⟩⟩, fun b c => by simp [Value.ownBlock] at c⟩
  · exact ⟨⟨a, .inr ⟨g, 0, cap, cur, rfl, f, i, j, by omega, by simpa using l⟩⟩, fun b m => by simp [Value.ownBlock] at m;omega⟩
def nv (n : Int) : Option Nat := if 0 ≤ n ∧ n ≤ 65536 then some n.toNat else none
theorem ZH {n : Int}{k : Nat}(h : nv n = some k) : n = k ∧ k ≤ 65536 := by
  unfold nv at h;split at h
  · rename_i a;have := Option.some.inj h;omega
  · cases h
theorem kG (z : Value) (k : Nat) : madeCells #[z] k = (List.replicate k z).toArray := by
  apply Array.ext';simp only [madeCells, Array.toList_map, Array.toList_range];apply List.ext_getElem?;intro i;simp only [List.getElem?_map, List.getElem?_range', List.getElem?_replicate];by_cases h : i < k
  · simp [h, Nat.mod_one]
  · simp [h]
theorem IF {x y : Operand}{e : TypeId}{z : Value}{bytes k : Nat}{c d : IntKind}{n : Int}(f : P.underlying T = some (.slice e)) (j : Wc P e ag [z] 1 bytes) (A : bytes ≤ 4096) (l : zb fr x (.int c n)) (m : zb fr y (.int d n)) (o : nv n = some k) (p : ka μ J w rs)
    (h : ∀ b w', ka μ J w' (.row (.slice (some ⟨b, 0, none⟩) k k) e 1 k (List.replicate k z):: rs) → Mg fr dst (.slice (some ⟨b, 0, none⟩) k k) fun Fa => K Fa ds w') :
    De P (Oper.mk dst (.makeSlice T x y) ty pos after g) fr ds w K Q := by
  obtain ⟨rfl, q⟩ := ZH o;obtain ⟨i, r, s, t, u, v, B⟩ := j.inf;have hm : i.bytes * k ≤ 4096 * 65536 := Nat.mul_le_mul (by omega) q;have a := run_make (P := P) w T e i r f s t c d k k (by omega) (Int.le_refl _) (by rw [← Int.natCast_mul];omega) (by omega);simp only [Int.toNat_natCast, v, Nat.mul_one, u] at a;rw [kG] at a;obtain ⟨Fa, ya⟩ := Ph fr dst (.slice (some ⟨w.heap.size, 0, none⟩) k k);refine sh (w' := w.alloc (.cells (List.replicate k z).toArray e)) ?_ ya (h _ _ (p.alloc rfl ⟨by simp, .inr ⟨_, 0, _, _, rfl, heap_alloc_new w _, Nat.le_refl _, by simp only [maxLen];omega, by simp, by simp⟩⟩) Fa ya);simp only [execOp, l ds, m ds, Sem.run_bind, a, Result.andThen_ok, Sem.run_pure]
theorem xC {α : Type}[Sa α]{z : Value}{x : α}(h : ∀ μ : M, Sa.cs μ [z] x) : ∀ k, ua μ (List.replicate k z) (List.replicate k x)
  | 0 => rfl
  | k + 1 => ⟨[z], _, rfl, h μ, xC h k⟩
theorem xJ {t e : TypeId}{v : Value}{a : Option Addr}{k c : Nat}(hu : P.underlying t = some (.slice e)) : Yq P 1 t (.slice a k c) (.slice none 0 0) a.isNone := ⟨fun d w ya => by
  cases d with
  | zero => omega
  | succ d => cases a <;> simp [Op.equalIn, run_underlying hu]⟩
theorem fH {x : Operand}{t qd e : TypeId}{a : Option Addr}{k c : Nat}(hu : P.underlying t = some (.slice e)) (b : zb fr x (.slice a k c)) (d : Vf fr dst (.bool a.isNone) Fa) (h : K Fa ds w) :
    De P (Oper.mk dst (.binOp .eql t x (.const (.slice none 0 0)) qd) ty pos after g) fr ds w K Q := by
  refine Ea ⟨fun ds w => ?_⟩ d h;have f := b ds;have i : (F fr ds).eval (.const (.slice none 0 0)) = .slice none 0 0 := rfl;have j := (xJ (v := .nilIface) (a := a) (k := k) (c := c) hu).out Op.maxDepth w (by decide);simp [execOp, f, i, eqGuard, binOp, Op.equal, j]
def small {α : Type}(l : List α) : Option Unit := if l.length ≤ 65536 then some () else none
theorem ow {α : Type}{l : List α}{u : Unit}(h : small l = some u) : l.length ≤ 65536 := by
  unfold small at h;split at h
  · assumption
  · cases h
theorem ua.bD {α : Type}[Sa α] : ∀ {l : List α}{cells : List Value}(i : Nat), ua μ cells l → ua μ (cells.take (i * Sa.sz α)) (l.take i)
  | [], cells, i, h => by rw [ua] at h; subst h; simp [ua]
  | x :: l, cells, 0, h => by simp [ua]
  | x :: l, cells, i + 1, h => by
    rw [ua] at h;obtain ⟨cs, t, rfl, a, b⟩ := h;rw [List.take_succ_cons, ua];refine ⟨cs, t.take (i * Sa.sz α), ?_, a, ua.bD i b⟩;have e : (i + 1) * Sa.sz α = cs.length + i * Sa.sz α := by rw [Nat.add_mul, Sa.vg a];omega
    rw [e, List.take_append];simp [List.take_of_length_le (show cs.length ≤ cs.length + i * Sa.sz α by omega)]
theorem Row.VJ {α : Type}[Sa α]{v : Value}{cells : List Value}{l Ha : List α}{j : Int}(h : Row w v T (Sa.sz α) l.length cells) (hm : ua μ cells l) (g : cut l 0 j = some Ha) :
    ∃ a b, Zq v (Sa.sz α) none (some j) a ∧ a.ownBlock = v.ownBlock ∧ (∀ w T, Row w v T (Sa.sz α) l.length cells → Row w a T (Sa.sz α) Ha.length b) ∧ ua μ b Ha := by
  obtain ⟨⟨k, c, d⟩, rfl⟩ := Ss g;obtain ⟨a, na, e, f⟩ := Row.ZC h c d;refine ⟨a, cells.take (j.toNat * Sa.sz α), na, e, fun w T i => ?_, by simpa using hm.bD j.toNat⟩;have := f w T i;have qa : ((l.take j.toNat).drop (0 : Int).toNat).length = j.toNat := by simp;omega
  rw [qa];exact this
end
end Go.sd
namespace Go.sd
open Go.oc Go.RowKit
instance:Sa UInt8 where
 sz:=1
 pos:=by decide
 cs _ l x:=l=[.int .u8 x.toNat]
 vg h:=by rw [h];rfl
 up _ h:=h
 ei h:=by rw [h];rfl
def wz (l:List UInt8):Option Int:=if l.length≤9223372036854775806 then (match Lib.parseIntB 64 l with | .ok v=>some v | _=>none) else none
def Zw (l sub:List UInt8):Option Bool:=if l.length<4294967281 then some (Lib.contains l sub) else none
end Go.sd
namespace Go.sd
open Go.oc Go.RowKit
def Km (N:List (List UInt8×Int)) (y:Int):Option (Option (List UInt8×Int)):=
 if (N.filter fun e=>decide (e.2=y)).length≤1 then some (N.filter fun e=>decide (e.2=y)).head? else none
section
variable {P:Program}{Q:Exit→Act→World→Prop}{K:List Value→List Deferred→World→Prop}{fr Fa:List Value}{ds:List Deferred}{w:World}
variable {dst:Option Tmp}{ty:TypeId}{pos:String}{after:Array Edge}{g:Option (Nat×Bool)}
variable {J:World}{rs Lc:List dc}{μ la:M}
variable {T:TypeId}
theorem lG {x:Operand}{Se aa:TypeId}{m c:Nat}{es:List MapEntry}(a:P.underlying T=some (.map Se aa)) (d:zb fr x (.map (some m))) (e:ka μ J w rs) (f:w.heap[m]?=some (.map ⟨es⟩ c))
  (h:∀ b w',w.heap.size≤b→ka μ J w' (.nj b m c [] c::rs)→Mg fr dst (.pointer (some ⟨b,0,none⟩)) fun Fa=>K Fa ds w'):De P (Oper.mk dst (.range T x) ty pos after g) fr ds w K Q:=by
 obtain ⟨Fa,ya⟩:=Ph fr dst (.pointer (some ⟨w.heap.size,0,none⟩));refine sh (v:=.pointer (some ⟨w.heap.size,0,none⟩)) (w':=w.alloc (.mapIter (some m) c #[] c)) ?_ ya (h _ _ (Nat.le_refl _) (e.alloc rfl (heap_alloc_new w _)) Fa ya);simp [execOp,d ds,Instr.range,run_underlying a,getObj,Sem.run,f,Result.andThen]
def leftOf (es:List MapEntry) (seen:List Nat):List MapEntry:=es.filter fun e=>!seen.contains e.born
theorem mem_left {es:List MapEntry}{seen:List Nat}{e:MapEntry}:e ∈ leftOf es seen ↔ e ∈ es∧e.born ∉ seen:=by
 simp [leftOf,List.mem_filter]
theorem mG {es:List MapEntry}{seen:List Nat}{c:Nat}(a:∀ e ∈ es,e.born<c) :
  ((⟨es⟩:Array MapEntry).filter fun e=>!(⟨seen⟩:Array Nat).contains e.born)=⟨leftOf es seen⟩ ∧
  ((⟨leftOf es seen⟩:Array MapEntry).filter fun e=>decide (e.born<c))=⟨leftOf es seen⟩∧((⟨leftOf es seen⟩:Array MapEntry).filter fun e=>decide (e.born ≥ c))=#[]:=by
 have b:(leftOf es seen).filter (fun e=>decide (e.born<c))=leftOf es seen:=List.filter_eq_self.2 fun e he=>by simpa using a e (mem_left.1 he).1
 have d:(leftOf es seen).filter (fun e=>decide (e.born ≥ c))=[]:=List.filter_eq_nil_iff.2 fun e he=>by have:=a e (mem_left.1 he).1;simp;omega
 refine ⟨?_,?_,?_⟩
 ·rw [List.filter_toArray];simp [leftOf]
 ·rw [List.filter_toArray,b]
 ·rw [List.filter_toArray,d]
theorem gH {es:List MapEntry}{seen:List Nat}{c:Nat}(a:∀ e ∈ es,e.born<c):(!(⟨seen⟩:Array Nat).isEmpty && !(⟨es⟩:Array MapEntry).isEmpty && (⟨es⟩:Array MapEntry).all (fun e=>decide (e.born ≥ c)))=false:=by
 cases es with
 | nil=>simp
 | cons e es =>
  have:=a e (List.mem_cons_self ..);have h:¬ c≤e.born:=by omega
  simp only [List.all_toArray,List.all_cons];simp [h]
theorem hH {x:Operand}{b m c G:Nat}{es:List MapEntry}{seen:List Nat}{N:List (List UInt8×Int)}{H:M}(q:zb fr x (.pointer (some ⟨b,0,none⟩))) (r:ka μ J w rs) (s:hc rs G (.nj b m c seen c)) (u:w.heap[m]?=some (.map ⟨es⟩ c)) (v:xe H es c N)
  (L:∀ (k:List UInt8) (y:Int) (n:Nat),⟨S k,.int .i64 y,n⟩ ∈ leftOf es seen→∀ w' Lc,Hc rs G (.nj b m c (seen++[n]) c) Lc→ka μ J w' Lc→Mg fr dst (.tuple ⟨[.bool true,S k,.int .i64 y]⟩) fun Fa=>K Fa ds w')
  (T:leftOf es seen=[]→Mg fr dst (.tuple ⟨[.bool false]⟩) fun Fa=>K Fa ds w) :
  De P (Oper.mk dst (.next x false) ty pos after g) fr ds w K Q:=by
 have f:w.heap[b]?=some (.mapIter (some m) c ⟨seen⟩ c):=r.get s;have R:b<w.heap.size:=(Array.getElem?_eq_some_iff.1 f).1;obtain ⟨j,l,o⟩:=mG (seen:=seen) v.lt;have z:=gH (seen:=seen) v.lt;have key:∀ e ∈ leftOf es seen,∃ (k:List UInt8) (y:Int),e=⟨S k,.int .i64 y,e.born⟩:=by
  intro e he;have he:=(mem_left.1 he).1;have:∀ (es:List MapEntry) (N:List (List UInt8×Int)),nf H es N→∀ e ∈ es,∃ (k:List UInt8) (y:Int),e=⟨S k,.int .i64 y,e.born⟩:=by
   intro es
   induction es with
   | nil=>intro N _ e he; cases he
   | cons a es U =>
    intro N h e he;rw [nf] at h;obtain ⟨k,x,t,A,B,C,W⟩:=h;rcases List.mem_cons.1 he with rfl | he
    ·obtain ⟨a,b,n⟩:=e;have B:a=S k:=B;have C:b=.int .i64 x:=C;subst B;subst C;exact ⟨k,x,rfl⟩
    ·exact U t W e he
  exact this es N v.vf e he
 cases d:leftOf es seen with
 | nil =>
  obtain ⟨Fa,ya⟩:=Ph fr dst (.tuple ⟨[.bool false]⟩);refine sh (w':=w) ?_ ya (T d Fa ya);rw [d] at j l o;simp only [execOp,q ds,Instr.next,getObj,Sem.run_bind,Sem.run,f,Result.andThen,u,z,Bool.false_eq_true,if_false,j,l,o];simp [Sem.run,Result.andThen,choose,Question.forced]
 | cons Va t0 =>
  rw [d] at j l o;by_cases A:t0=[]
  ·subst A;obtain ⟨k,y,e⟩:=key Va (by rw [d];exact List.mem_singleton.2 rfl);obtain ⟨D,E⟩:=Hs w b (.mapIter (some m) c ⟨seen++[Va.born]⟩ c) R;obtain ⟨Fa,p⟩:=Ph fr dst (.tuple ⟨[.bool true,S k,.int .i64 y]⟩);refine sh (w':={ w with heap:=w.heap.setIfInBounds b (.mapIter (some m) c ⟨seen++[Va.born]⟩ c) }) ?_ p (L k y Va.born (by rw [d,← e];exact List.mem_singleton.2 rfl) _ _ rfl (r.put (b:=b) s rfl rfl rfl E D) Fa p);rw [e] at j l o;simp only [execOp,q ds,Instr.next,getObj,Sem.run_bind,Sem.run,f,Result.andThen,u,z,Bool.false_eq_true,if_false,j,l,o];simp [Sem.run,Result.andThen,choose,Question.forced,setObj,f]
  ·have hlen:¬ (Va::t0).length≤1:=by
    cases t0 with
    | nil=>exact absurd rfl A
    | cons _ _=>simp
   let i:=(w.tape w.drawn (.mapNext (Va::t0).length)) % (Va::t0).length
   have F:i<(Va::t0).length:=Nat.mod_lt _ (by simp);obtain ⟨k,y,e⟩:=key ((Va::t0)[i]) (by rw [d];exact List.getElem_mem F);obtain ⟨D,E⟩:=Hs w.drew b (.mapIter (some m) c ⟨seen++[((Va::t0)[i]).born]⟩ c) R;obtain ⟨Fa,p⟩:=Ph fr dst (.tuple ⟨[.bool true,S k,.int .i64 y]⟩);refine sh (w':={ w.drew with heap:=w.drew.heap.setIfInBounds b (.mapIter (some m) c ⟨seen++[((Va::t0)[i]).born]⟩ c) }) ?_ p (L k y ((Va::t0)[i]).born (by rw [d,← e];exact List.getElem_mem F) _ _ rfl ((r.drew (w':=w.drew) rfl rfl rfl rfl).put (b:=b) s rfl rfl rfl E D) Fa p);have X:w.drew.heap[b]?=some (.mapIter (some m) c ⟨seen⟩ c):=f;have Y:((if (⟨Va::t0⟩:Array MapEntry).isEmpty=true then #[none] else #[])++((⟨Va::t0⟩:Array MapEntry)++#[]).map some)=⟨(Va::t0).map some⟩:=by simp
   simp only [execOp,q ds,Instr.next,getObj,Sem.run_bind,Sem.run,f,Result.andThen,u,z,Bool.false_eq_true,if_false,j,l,o,Y];have hs:(⟨(Va::t0).map some⟩:Array (Option MapEntry)).size=(Va::t0).length:=by simp
   have Z:(Question.mapNext (Va::t0).length).forced=false:=decide_eq_false hlen;have gc:(⟨(Va::t0).map some⟩:Array (Option MapEntry))[(Question.mapNext (Va::t0).length).cut (w.tape w.drawn (.mapNext (Va::t0).length))]?=some (some ((Va::t0)[i])):=by
    show (⟨(Va::t0).map some⟩:Array (Option MapEntry))[i]?=_;rw [List.getElem?_toArray,List.getElem?_map,List.getElem?_eq_getElem F];rfl
   simp only [hs,choose,Sem.run,Z,gc,Bool.false_eq_true,if_false];generalize (Va::t0)[i]=na at *;rw [e];simp [Sem.run,Result.andThen,setObj,X]
theorem find_born {n:Nat}:∀ {es:List MapEntry}{e:MapEntry},(es.Pairwise fun a b=>a.born<b.born)→e ∈ es→e.born=n→es.find? (fun a=>a.born == n)=some e
 | a::es,e,h,he,c=>by
  rw [List.find?_cons];rcases List.mem_cons.1 he with rfl | d
  ·simp [c]
  ·have f:=(List.pairwise_cons.1 h).1 e d;have:¬ a.born=n:=by omega
   simp only [beq_eq_false_iff_ne.2 this];exact find_born (List.pairwise_cons.1 h).2 d c
theorem nG {x:Operand}{b m c d n:Nat}{es:List MapEntry}{seen:List Nat}{N:List (List UInt8×Int)}{e:M}{k:List UInt8}{y:Int}(f:zb fr x (.pointer (some ⟨b,0,none⟩))) (i:ka μ J w rs) (j:hc rs d (.nj b m c (seen++[n]) c)) (l:w.heap[m]?=some (.map ⟨es⟩ c)) (o:xe e es c N){oe:List Nat}(he:⟨S k,.int .i64 y,n⟩ ∈ leftOf es oe)
  (ya:Vf fr dst (.tuple ⟨[S k,.int .i64 y]⟩) Fa) (h:K Fa ds w) :
  De P (Oper.mk dst (.entry x) ty pos after g) fr ds w K Q:=by
 have p:w.heap[b]?=some (.mapIter (some m) c ⟨seen++[n]⟩ c):=i.get j;have q:(⟨seen++[n]⟩:Array Nat).back?=some n:=by simp [Array.back?]
 have r:(⟨es⟩:Array MapEntry).find? (fun a=>a.born == n)=some ⟨S k,.int .i64 y,n⟩:=by rw [List.find?_toArray];exact find_born o.inc (mem_left.1 he).1 rfl
 refine sh (w':=w) ?_ ya h;simp only [execOp,f ds,Instr.entry,getObj,Sem.run_bind,Sem.run,p,Result.andThen,l,q,r];simp [Sem.run]
def Zl (es:List MapEntry) (seen:List Nat) (y:Int) (n:Nat):Prop:=(leftOf es seen).length=n∧∀ e ∈ es,e.born ∈ seen→e.val≠.int .i64 y
theorem Zl.start {es:List MapEntry}{y:Int}:Zl es [] y es.length:=⟨by rw [leftOf,List.filter_eq_self.2 (by simp)],by simp⟩
theorem Zl.step {es:List MapEntry}{seen:List Nat}{y x:Int}{n m c:Nat}{k:List UInt8}{N:List (List UInt8×Int)}{i:M}(h:Zl es seen y n) (d:xe i es c N) (he:⟨S k,.int .i64 x,m⟩ ∈ leftOf es seen) (j:¬ x=y):∃ f,f<n∧Zl es (seen++[m]) y f:=by
 obtain ⟨l,o⟩:=h;refine ⟨_,?_,rfl,fun e hm b=>?_⟩
 ·rw [← l];have e:leftOf es (seen++[m])=(leftOf es seen).filter fun a=>decide (a.born≠m):=by
   rw [leftOf,leftOf,List.filter_filter];apply List.filter_congr;intro a _;by_cases q:a.born=m<;>simp [q]
  rw [e];refine Nat.lt_of_le_of_ne (List.length_filter_le ..) fun p=>?_;have:=(List.length_filter_eq_length_iff.1 p) _ he;simp at this
 ·rcases List.mem_append.1 b with b | b
  ·exact o e hm b
  ·have b:=List.mem_singleton.1 b;have na:=find_born d.inc hm b;have g:=find_born d.inc (mem_left.1 he).1 rfl;rw [na] at g;rw [Option.some.inj g];intro q;cases q;exact j rfl
theorem nf.mem_of {d:M}{k:List UInt8}{y:Int}{n:Nat}:∀ {es:List MapEntry}{N:List (List UInt8×Int)},nf d es N→(⟨S k,.int .i64 y,n⟩:MapEntry) ∈ es→(k,y) ∈ N
 | a::es,N,h,he=>by
  rw [nf] at h;obtain ⟨e,x,t,rfl,b,c,f⟩:=h;rcases List.mem_cons.1 he with rfl | he
  ·have b:S k=S e:=b;have c:Value.int .i64 y=.int .i64 x:=c;cases c;cases b;exact List.mem_cons_self ..
  ·exact List.mem_cons_of_mem _ (nf.mem_of f he)
theorem nf.yC {b:M}{k:List UInt8}{y:Int}:∀ {es:List MapEntry}{N:List (List UInt8×Int)},nf b es N→(k,y) ∈ N→∃ e ∈ es,e.val=.int .i64 y
 | [],N,h,he=>by rw [nf] at h; subst h; cases he
 | a::es,N,h,he=>by
  rw [nf] at h;obtain ⟨i,x,t,rfl,j,c,d⟩:=h;rcases List.mem_cons.1 he with e | he
  ·cases e;exact ⟨a,List.mem_cons_self ..,c⟩
  ·obtain ⟨e,f,g⟩:=nf.yC d he;exact ⟨e,List.mem_cons_of_mem _ f,g⟩
theorem Zl.hit {es:List MapEntry}{seen:List Nat}{y x:Int}{m c:Nat}{k:List UInt8}{N:List (List UInt8×Int)}{f:M}{o:Option (List UInt8×Int)}(h:xe f es c N) (he:⟨S k,.int .i64 x,m⟩ ∈ leftOf es seen) (i:x=y) (g:Km N y=some o):o.isSome=true∧k=(o.getD ([],0)).1:=by
 subst i;have hm:=nf.mem_of h.vf (mem_left.1 he).1;rw [Km] at g;split at g
 ·rename_i qa;obtain rfl:=Option.some.inj g;have j:(k,x) ∈ N.filter fun e=>decide (e.2=x):=List.mem_filter.2 ⟨hm,by simp⟩;have aux:∀ F:List (List UInt8×Int),F.length≤1→(k,x) ∈ F→F.head?=some (k,x):=by
   intro F b d
   match F,b,d with
   | [a],_,d=>rw [List.mem_singleton.1 d]; rfl
   | _::_::_,b,_=>simp at b
  rw [aux _ qa j];exact ⟨rfl,rfl⟩
 ·cases g
theorem Zl.fin {es:List MapEntry}{seen:List Nat}{y:Int}{n c:Nat}{N:List (List UInt8×Int)}{i:M}{o:Option (List UInt8×Int)}(h:Zl es seen y n) (j:xe i es c N) (qa:leftOf es seen=[]) (g:Km N y=some o):¬ o.isSome=true:=by
 have he:N.filter (fun e=>decide (e.2=y))=[]:=by
  rw [List.filter_eq_nil_iff];intro a l b;obtain ⟨k,x⟩:=a;have b:x=y:=by simpa using b
  subst b;obtain ⟨e,d,m⟩:=nf.yC j.vf l;by_cases f:e.born ∈ seen
  ·exact h.2 e d f m
  ·have:e ∈ leftOf es seen:=mem_left.2 ⟨d,f⟩;rw [qa] at this;cases this
 rw [Km,he] at g;obtain rfl:=Option.some.inj g;simp
abbrev tK (_:M) (es:List MapEntry) (seen:List Nat) (y:Int) (n:Nat):Prop:=Zl es seen y n
end
end Go.sd
namespace Go.sd
open Go.oc Go.RowKit
theorem nh {α:Type}{c:Prop}[Decidable c]{y:Option α}{r:α}{G:Prop}(h:(if c then none else y)=some r) (a:c):G:=by rw [if_pos a] at h;cases h
theorem To {α:Type}{c:Prop}[Decidable c]{x:Option α}{r:α}{G:Prop}(h:(if c then x else none)=some r) (a:¬ c):G:=by rw [if_neg a] at h;cases h
section
variable {P:Program}{Q Q':Exit→Act→World→Prop}{fr Fa:List Value}{ds:List Deferred}{w:World}{ops:Array Oper}{y:Code}{id:Nat}{l:List Oper}
theorem ia (h:df P y Q' fr ds w):Lf P ops (Exit.then (lq P y Q') Q) [] fr ds w:=Na (ra h)
theorem da (h:Lf P l.toArray (Exit.then (lq P y Q) Q) l fr ds w):df P (.seq (.region id l.toArray false) y) Q fr ds w:=ab (nb h)
theorem vb (h:Lf P l.toArray (Exit.then (lq P y Q') Q') l fr ds w):Lf P ops (Exit.then (lq P (.seq (.region id l.toArray false) y) Q') Q) [] fr ds w:=Na (ra (ab (nb h)))
theorem pb {x:Code}(h:df P x (Exit.then (lq P y Q') Q') fr ds w):Lf P ops (Exit.then (lq P (.seq x y) Q') Q) [] fr ds w:=Na (ra (ab h))
variable {R R':List Nat}{dst:Tmp}{op:Op}{ty:TypeId}{pos:String}{after:Array Edge}{v:Value}{nc:List Mon}{j d:Nat}{b Ke:Bool}
theorem Le (i:Nat) (S:List Nat) (he:(decide R.Nodup && enabled ops R i && waits ops R S i && Nk ops S R i && S.contains i,R.erase i,ops[i]?)=(true,R',some ⟨some dst,op,ty,pos,after,none⟩)) (Ab:Of P ⟨some dst,op,ty,pos,after,none⟩ fr v) (a:Hc fr dst v Fa) (h:gf P ops Q nc R' Fa ds w) (b:vk Q dst:=by first | exact fun _ _ _ _ _ h=>h | exact Ac fun _ _ _ h=>h.2 | exact Ac fun _ _ _ h=>h.2.2):gf P ops Q nc R fr ds w:=Qh S b (congrArg (·.1) he) (congrArg (·.2.1) he) (congrArg (·.2.2) he) Ab a h
theorem Hg (i:Nat) (S:List Nat) (he:(decide R.Nodup && enabled ops R i && waits ops R S i && Nk ops S R i && S.contains i,R.erase i,ops[i]?)=(true,R',some ⟨some dst,op,ty,pos,after,some (j,b)⟩)) (a:(ops[j]?).bind (·.dst)=some d) (qa:hc fr d (.bool b)) (Ab:Of P ⟨some dst,op,ty,pos,after,some (j,b)⟩ fr v) (c:Hc fr dst v Fa) (h:gf P ops Q nc R' Fa ds w) (e:vk Q dst:=by first | exact fun _ _ _ _ _ h=>h | exact Ac fun _ _ _ h=>h.2 | exact Ac fun _ _ _ h=>h.2.2):gf P ops Q nc R fr ds w:=ij S e (congrArg (·.1) he) (congrArg (·.2.1) he) (congrArg (·.2.2) he) a qa Ab c h
theorem Me (i:Nat) (S:List Nat) (he:(decide R.Nodup && enabled ops R i && waits ops R S i && Nk ops S R i && S.contains i,R.erase i,ops[i]?)=(true,R',some ⟨some dst,op,ty,pos,after,some (j,b)⟩)) (a:(ops[j]?).bind (·.dst)=some d) (qa:hc fr d (.bool Ke)) (c:(Ke == b)=false) (e:Hc fr dst undef Fa) (h:gf P ops Q nc R' Fa ds w) (f:vk Q dst:=by first | exact fun _ _ _ _ _ h=>h | exact Ac fun _ _ _ h=>h.2 | exact Ac fun _ _ _ h=>h.2.2):gf P ops Q nc R fr ds w:=rf S f (congrArg (·.1) he) (congrArg (·.2.1) he) (congrArg (·.2.2) he) a qa c e h
theorem bj (i:Nat) (S:List Nat) (he:(decide R.Nodup && enabled ops R i && waits ops R S i && Nk ops S R i && S.contains i,R.erase i,ops[i]?)=(true,R',some ⟨some dst,op,ty,pos,after,some (j,b)⟩)) (a:(ops[j]?).bind (·.dst)=some d) (qa:hc fr d undef) (c:Hc fr dst undef Fa) (h:gf P ops Q nc R' Fa ds w) (e:vk Q dst:=by first | exact fun _ _ _ _ _ h=>h | exact Ac fun _ _ _ h=>h.2 | exact Ac fun _ _ _ h=>h.2.2):gf P ops Q nc R fr ds w:=UH S e (congrArg (·.1) he) (congrArg (·.2.1) he) (congrArg (·.2.2) he) a qa c h
theorem wb (i:Nat) (S:List Nat) (he:(decide R.Nodup && enabled ops R i && waits ops R S i && Nk ops S R i && S.contains i,R.erase i,ops[i]?)=(true,R',some ⟨some dst,op,ty,pos,after,none⟩)) (Ab:bn P ⟨some dst,op,ty,pos,after,none⟩ fr w v) (a:Hc fr dst v Fa) (h:gf P ops Q ((S,fun w'=>bn P ⟨some dst,op,ty,pos,after,none⟩ fr w' v)::nc) R' Fa ds w) (b:vk Q dst:=by first | exact fun _ _ _ _ _ h=>h | exact Ac fun _ _ _ h=>h.2 | exact Ac fun _ _ _ h=>h.2.2):gf P ops Q nc R fr ds w:=aD S b (congrArg (·.1) he) (congrArg (·.2.1) he) (congrArg (·.2.2) he) Ab a h
theorem tm (i:Nat) (S:List Nat) (he:(decide R.Nodup && enabled ops R i && waits ops R S i && Nk ops S R i && S.contains i,R.erase i,ops[i]?)=(true,R',some ⟨some dst,op,ty,pos,after,some (j,b)⟩)) (a:(ops[j]?).bind (·.dst)=some d) (qa:hc fr d (.bool b)) (Ab:bn P ⟨some dst,op,ty,pos,after,some (j,b)⟩ fr w v) (c:Hc fr dst v Fa) (h:gf P ops Q ((S,fun w'=>bn P ⟨some dst,op,ty,pos,after,some (j,b)⟩ fr w' v)::nc) R' Fa ds w) (e:vk Q dst:=by first | exact fun _ _ _ _ _ h=>h | exact Ac fun _ _ _ h=>h.2 | exact Ac fun _ _ _ h=>h.2.2):gf P ops Q nc R fr ds w:=Eu S e (congrArg (·.1) he) (congrArg (·.2.1) he) (congrArg (·.2.2) he) a qa Ab c h
end
class Dl (l:List Value) (n:Nat) (v:outParam Value):Prop where out:hc l n v
instance {v:Value}{l:List Value}:Dl (v::l) 0 v:=⟨rfl⟩
instance {a v:Value}{l:List Value}{n:Nat}[h:Dl l n v]:Dl (a::l) (n+1) v:=⟨h.out⟩
instance (priority:=2000){c0 Wa c2 c3 c4 c5 He a b c9 v:Value}{l:List Value}{n:Nat}[h:Dl l n v]:Dl (c0::Wa::c2::c3::c4::c5::He::a::b::c9::l) (n+10) v:=⟨h.out⟩
class Ai (l:List Value) (n:Nat) (v:Value) (Ha:outParam (List Value)):Prop where out:Hc l n v Ha
instance {a v:Value}{l:List Value}:Ai (a::l) 0 v (v::l):=⟨rfl⟩
instance {a v:Value}{l Ha:List Value}{n:Nat}[h:Ai l n v Ha]:Ai (a::l) (n+1) v (a::Ha):=⟨congrArg (a::·) h.out⟩
instance (priority:=2000){c0 Wa c2 c3 c4 c5 He a b c9 v:Value}{l Ha:List Value}{n:Nat}[h:Ai l n v Ha]:Ai (c0::Wa::c2::c3::c4::c5::He::a::b::c9::l) (n+10) v (c0::Wa::c2::c3::c4::c5::He::a::b::c9::Ha):=⟨congrArg (c0::Wa::c2::c3::c4::c5::He::a::b::c9::·) h.out⟩
class gh (fr:List Value) (x:Operand) (v:outParam Value):Prop where out:zb fr x v
instance {fr:List Value}{n:Nat}{v:Value}[h:Dl fr n v]:gh fr (.tmp n) v:=⟨aa h.out⟩
instance {fr:List Value}{v:Value}:gh fr (.const v) v:=⟨Ma⟩
class bk (P:Program) (op:Op) (fr:List Value) (v:outParam Value):Prop where out:∀ dst ty pos after g,Of P (Oper.mk dst op ty pos after g) fr v
section
variable {P:Program}{fr:List Value}{x y c:Operand}{v:Value}{t qd:TypeId}{k:IntKind}{a b:Int}
instance [h:gh fr x v]:bk P (.move x) fr v:=⟨fun _ _ _ _ _=>Oh h.out⟩
instance [h:gh fr x v]:bk P (.assign x) fr v:=⟨fun _ _ _ _ _=>rB h.out⟩
instance {a:Addr}[h:gh fr x (.pointer (some a))]:bk P (.nilCheck x) fr (.pointer (some a)):=⟨fun _ _ _ _ _=>Jl h.out⟩
instance [c:gh fr x (.int k a)] [d:gh fr y (.int k b)]:bk P (.binOp .eql t x y qd) fr (.bool (decide (a=b))):=⟨fun _ _ _ _ _=>lz c.out d.out⟩
instance [c:gh fr x (.int k a)] [d:gh fr y (.int k b)]:bk P (.binOp .neq t x y qd) fr (.bool (decide (a≠b))):=⟨fun _ _ _ _ _=>nJ c.out d.out⟩
instance [c:gh fr x (.int k a)] [d:gh fr y (.int k b)]:bk P (.binOp .lss t x y qd) fr (.bool (decide (a<b))):=⟨fun _ _ _ _ _=>Gu c.out d.out⟩
instance [c:gh fr x (.int k a)] [d:gh fr y (.int k b)]:bk P (.binOp .leq t x y qd) fr (.bool (decide (a≤b))):=⟨fun _ _ _ _ _=>lJ c.out d.out⟩
instance [c:gh fr x (.int k a)] [d:gh fr y (.int k b)]:bk P (.binOp .gtr t x y qd) fr (.bool (decide (b<a))):=⟨fun _ _ _ _ _=>Hu c.out d.out⟩
instance [c:gh fr x (.int k a)] [d:gh fr y (.int k b)]:bk P (.binOp .geq t x y qd) fr (.bool (decide (b≤a))):=⟨fun _ _ _ _ _=>mJ c.out d.out⟩
end
section
variable {P:Program}{Q:Exit→Act→World→Prop}{fr Fa:List Value}{ds:List Deferred}{w:World}{ops:Array Oper}{rest:List Oper}{d:Tmp}{op:Op}{ty:TypeId}{pos:String}{after:Array Edge}{v:Value}
theorem st [hu:bk P op fr v] [a:Ai fr d v Fa] (h:Lf P ops Q rest Fa ds w):Lf P ops Q (⟨some d,op,ty,pos,after,none⟩::rest) fr ds w:=wl (Ea (hu.out _ _ _ _ _) (ma a.out) h)
end
class lx (fr:List Value) (xs:List Operand) (vs:outParam (List Value)):Prop where out:Vm fr xs vs
instance {fr:List Value}:lx fr [] []:=⟨Va⟩
instance {fr:List Value}{x:Operand}{v:Value}{xs:List Operand}{vs:List Value}[h:gh fr x v] [k:lx fr xs vs]:lx fr (x::xs) (v::vs):=⟨na h.out k.out⟩
section
variable {P:Program}{fr:List Value}{x y c:Operand}{v:Value}{t qd T:TypeId}{b:Nat}{o off i:Nat}{vs:List Value}{q:Bool}
instance [a:ke P T i off] [h:gh fr x (.pointer (some ⟨b,o,none⟩))]:bk P (.fieldAddr T x i) fr (.pointer (some ⟨b,o+off,none⟩)):=⟨fun _ _ _ _ _=>yk a h.out rfl⟩
instance [a:gh fr c (.bool true)] [h:gh fr x v]:bk P (.pick c x y) fr v:=⟨fun _ _ _ _ _=>Jp a.out h.out⟩
instance [a:gh fr c (.bool false)] [h:gh fr y v]:bk P (.pick c x y) fr v:=⟨fun _ _ _ _ _=>wu a.out h.out⟩
instance [h:gh fr x (.bool q)]:bk P (.unOp .not t x) fr (.bool (!q)):=⟨fun _ _ _ _ _=>oJ h.out⟩
instance [h:gh fr x (.tuple ⟨vs⟩)] [k:Dl vs i v]:bk P (.extract x i) fr v:=⟨fun _ _ _ _ _=>QH h.out k.out⟩
end
section
variable {P:Program}{Q:Exit→Act→World→Prop}{fr Fa:List Value}{ds:List Deferred}{w:World}{ops:Array Oper}{rest:List Oper}{d:Tmp}{op:Op}{ty:TypeId}{pos:String}{after:Array Edge}{v:Value}{j e:Nat}{b Ke:Bool}
theorem za [hu:bk P op fr v] [a:Ai fr d v Fa] (c:(ops[j]?).bind (·.dst)=some e) [qa:Dl fr e (.bool b)] (h:Lf P ops Q rest Fa ds w):Lf P ops Q (⟨some d,op,ty,pos,after,some (j,b)⟩::rest) fr ds w:=Qb c qa.out (Ea (hu.out _ _ _ _ _) (ma a.out) h)
theorem oa [a:Ai fr d undef Fa] (c:(ops[j]?).bind (·.dst)=some e) [qa:Dl fr e (.bool Ke)] (f:(Ke == b)=false) (h:Lf P ops Q rest Fa ds w):Lf P ops Q (⟨some d,op,ty,pos,after,some (j,b)⟩::rest) fr ds w:=wn c qa.out f (ma a.out) h
theorem Ca {T:TypeId}{Vd:List Value}{n m o q:Nat}{x:Operand}[a:Wc P T false Vd n m] (b:w.cell? ⟨q,o,none⟩=some v) [c:gh fr x (.pointer (some ⟨q,o,none⟩))] [e:Ai fr d v Fa] (h:Lf P ops Q rest Fa ds w):Lf P ops Q (⟨some d,.load T x,ty,pos,after,none⟩::rest) fr ds w:=wl (ae a c.out b (ma e.out) h)
theorem Nf {T:TypeId}{Vd cs:List Value}{n m o q:Nat}{x:Operand}[a:Wc P T true Vd n m] (b:tj w q o cs) (c:cs.length=n) [e:gh fr x (.pointer (some ⟨q,o,none⟩))] [f:Ai fr d (.agg ⟨cs⟩) Fa] (h:Lf P ops Q rest Fa ds w):Lf P ops Q (⟨some d,.load T x,ty,pos,after,none⟩::rest) fr ds w:=wl (Kp a e.out b c (ma f.out) h)
theorem Ua {dst:Option Tmp}{xs:List Operand}{tys:Array TypeId}{k:FuncId}{vs:List Value}{R:Value→World→Prop}[a:vc P k] [hs:lx fr xs vs] (b:pc P k vs w R) (h:∀ v w',R v w'→Mg fr dst v fun Fa=>Lf P ops Q rest Fa ds w') :
  Lf P ops Q (⟨dst,.call { callee:=.value (.func k),args:=⟨xs⟩,argTypes:=tys },ty,pos,after,none⟩::rest) fr ds w:=wl (xd a hd hs.out b h)
theorem Ud {id:Nat}{l:List Oper}{μ:M}{J:World}{rs:List dc}(a:ka μ J w rs) (h:∀ w',ka μ J w' rs→Uz P l.toArray Q (List.range l.length) fr ds w') (hm:P.follows .mixedOrders=true:=by kernel_rfl) (b:(List.range l.toArray.size).all (fun i=>(Sl l.toArray i).all fun j=>decide (j<i))=true:=by rfl):df P (.region id l.toArray true) Q fr ds w :=
 uJ hm b fun w' c d e f=>h w' (a.drew c d e f)
theorem ja {v:Value}{K:List Value→Prop}[a:Ai fr d v Fa] (h:K Fa):Mg fr (some d) v K:=pu (ma a.out) h
theorem ha {nc:List Mon}{R R':List Nat}(i:Nat) (S:List Nat) (he:(decide R.Nodup && enabled ops R i && waits ops R S i && Nk ops S R i && S.contains i,R.erase i,ops[i]?)=(true,R',some ⟨some d,op,ty,pos,after,none⟩)) [Ab:bk P op fr v] [a:Ai fr d v Fa] (h:gf P ops Q nc R' Fa ds w) (b:vk Q d:=by first | exact fun _ _ _ _ _ h=>h | exact Ac fun _ _ _ h=>h.2 | exact Ac fun _ _ _ h=>h.2.2):gf P ops Q nc R fr ds w :=
 Le i S he (Ab.out _ _ _ _ _) a.out h b
end
section
variable {rs Lc:List dc}{ta a2 a3 a4 a5 Nb zc Mb a9 Be qc a12 r:dc}
theorem rb:ej (ta::r::rs) 1 (r::ta::rs):=.s (ej.z)
theorem Pb:ej (ta::a2::r::rs) 2 (r::ta::a2::rs):=.s (.s (ej.z))
theorem Oa:ej (ta::a2::a3::r::rs) 3 (r::ta::a2::a3::rs):=.s (.s (.s (ej.z)))
theorem db:ej (ta::a2::a3::a4::r::rs) 4 (r::ta::a2::a3::a4::rs):=.s (.s (.s (.s (ej.z))))
theorem xf:ej (ta::a2::a3::a4::a5::r::rs) 5 (r::ta::a2::a3::a4::a5::rs):=.s (.s (.s (.s (.s (ej.z)))))
theorem bl:ej (ta::a2::a3::a4::a5::Nb::r::rs) 6 (r::ta::a2::a3::a4::a5::Nb::rs):=.s (.s (.s (.s (.s (.s (ej.z))))))
theorem cn:ej (ta::a2::a3::a4::a5::Nb::zc::r::rs) 7 (r::ta::a2::a3::a4::a5::Nb::zc::rs):=.s (.s (.s (.s (.s (.s (.s (ej.z)))))))
end
section
variable {P:Program}{Q:Exit→Act→World→Prop}{fr th uh:List Value}{ds:List Deferred}{w:World}{ops:Array Oper}{l:List Oper}{R:List Nat}{nc:List Mon}{c:Operand}{x y:Code}{p:Prop}[Decidable p]{b:Bool}{d:Nat}{α:Type}{A B:Option α}{r:α}
theorem jb (h:(if p then A else B)=some r) [a:gh fr c (.bool (decide p))] (b:p→A=some r→df P x Q fr ds w) (d:¬ p→B=some r→df P y Q fr ds w):df P (.cond c x y) Q fr ds w:=yj a.out (fun q=>b q (dj q h)) (fun q=>d q (kg q h))
theorem te (h:(if b=true then A else B)=some r) [a:gh fr c (.bool b)] (d:b=true→A=some r→df P x Q fr ds w) (e:¬ b=true→B=some r→df P y Q fr ds w):df P (.cond c x y) Q fr ds w:=Xj a.out (fun q=>d q (dj q h)) (fun q=>e q (kg q h))
theorem Ej (h:(if b=true then A else B)=some r) [a:gh fr c (.bool (!b))] (d:¬ b=true→B=some r→df P x Q fr ds w) (e:b=true→A=some r→df P y Q fr ds w):df P (.cond c x y) Q fr ds w:=nz a.out (fun q=>d q (kg q h)) (fun q=>e q (dj q h))
theorem qe (d:Nat) (h:(if p then A else B)=some r) [qa:Dl fr d (.bool (decide p))] [a:Ai fr d (.bool true) th] [b:Ai fr d (.bool false) uh] (c:p→A=some r→Lf P ops Q l th ds w) (e:¬ p→B=some r→Lf P ops Q l uh ds w):Lf P ops Q l fr ds w:=Xu qa.out a.out b.out (fun q=>c q (dj q h)) (fun q=>e q (kg q h))
theorem Iz (d:Nat) (h:(if b=true then A else B)=some r) [qa:Dl fr d (.bool b)] [a:Ai fr d (.bool true) th] [c:Ai fr d (.bool false) uh] (e:b=true→A=some r→Lf P ops Q l th ds w) (f:¬ b=true→B=some r→Lf P ops Q l uh ds w):Lf P ops Q l fr ds w:=TJ qa.out a.out c.out (fun q=>e q (dj q h)) (fun q=>f q (kg q h))
theorem ov (d:Nat) (h:(if b=true then A else B)=some r) [qa:Dl fr d (.bool (!b))] [a:Ai fr d (.bool true) th] [c:Ai fr d (.bool false) uh] (e:¬ b=true→B=some r→Lf P ops Q l th ds w) (f:b=true→A=some r→Lf P ops Q l uh ds w):Lf P ops Q l fr ds w:=vJ qa.out a.out c.out (fun q=>e q (kg q h)) (fun q=>f q (dj q h))
theorem Po (d:Nat) (h:(if p then A else B)=some r) [qa:Dl fr d (.bool (decide p))] [a:Ai fr d (.bool true) th] [b:Ai fr d (.bool false) uh] (c:p→A=some r→gf P ops Q nc R th ds w) (e:¬ p→B=some r→gf P ops Q nc R uh ds w):gf P ops Q nc R fr ds w:=UJ qa.out a.out b.out (fun q=>c q (dj q h)) (fun q=>e q (kg q h))
theorem uK (d:Nat) (h:(if b=true then A else B)=some r) [qa:Dl fr d (.bool b)] [a:Ai fr d (.bool true) th] [c:Ai fr d (.bool false) uh] (e:b=true→A=some r→gf P ops Q nc R th ds w) (f:¬ b=true→B=some r→gf P ops Q nc R uh ds w):gf P ops Q nc R fr ds w:=DD qa.out a.out c.out (fun q=>e q (dj q h)) (fun q=>f q (kg q h))
end
abbrev Ye (l:List Value):List Value:=undef::l
abbrev yd (l:List Value):List Value:=undef::undef::l
abbrev We (l:List Value):List Value:=undef::undef::undef::undef::undef::l
abbrev Zf (l:List Value):List Value:=undef::undef::undef::undef::undef::undef::undef::undef::undef::undef::l
abbrev hf (l:List Value):List Value:=undef::undef::undef::undef::undef::undef::undef::undef::undef::undef::undef::undef::undef::undef::undef::undef::undef::undef::undef::undef::l
abbrev bf (l:List Value):List Value:=undef::undef::undef::undef::undef::undef::undef::undef::undef::undef::undef::undef::undef::undef::undef::undef::undef::undef::undef::undef::undef::undef::undef::undef::undef::undef::undef::undef::undef::undef::undef::undef::undef::undef::undef::undef::undef::undef::undef::undef::undef::undef::undef::undef::undef::undef::undef::undef::undef::undef::l
end Go.sd
namespace Go.sd
theorem Ia {α : Type}{a b : α}(h : some a = some b) : a = b := Option.some.inj h
abbrev rg : Nat → Nat → List Nat := fun a b => List.range' a b
end Go.sd
