/- Texts of Xt. -/
import Derived.Test.YticaondbdmcpoaaGreatDoorCWk
import Derived.LoopN
import Derived.KernelRfl
set_option linter.unusedSimpArgs false
set_option linter.unusedVariables false
set_option linter.unusedSectionVars false
namespace Go.Mc
open Go.hc Go.RowKit
abbrev M:=World→Prop
def ha (μ J:M):Prop:=∀ w,J w→μ w
theorem ha.r {μ:M}:ha μ μ:=fun _ h=>h
theorem ha.t {a b c:M}(h:ha a b) (k:ha b c):ha a c:=fun w x=>h w (k w x)
abbrev ja (μ:M) (da w:World) (rs:List Qa):Prop:=Sep (fun _=>False) (fun _=>True) da w rs μ
def Ba (μ:M) (b o:Nat) (cs:List Value):Prop:=∀ w,μ w→kj w b o cs
theorem Ba.up {μ J:M}{b o:Nat}{cs:List Value}(h:Ba μ b o cs) (l:ha μ J):Ba J b o cs:=fun w k=>h w (l w k)
class mb (α:Type) where
 sz:Nat
 pos:0<sz
 cs:M→List Value→α→Prop
 Gi:∀ {μ:M}{l:List Value}{x:α},cs μ l x→l.length=sz
 up:∀ {μ J:M}{l:List Value}{x:α},ha μ J→cs μ l x→cs J l x
 Fh:∀ {μ:M}{l:List Value}{x:α},cs μ l x→l.all xg=true
structure qd {α:Type}(sz:Nat) (R:List Value→α→Prop) (μ:M) (a:Option Addr) (c:Nat) (xs:List α):Prop where
 le:xs.length≤c
 cap:c≤maxLen
 el:xs=[]∨∃ b o,a=some ⟨b,o,none⟩∧∃ g:Nat→List Value,∀ i x,xs[i]?=some x→Ba μ b (o+i*sz) (g i)∧R (g i) x
abbrev Na {α:Type}[mb α] (μ:M) (a:Option Addr) (c:Nat) (xs:List α):Prop:=qd (mb.sz α) (mb.cs μ) μ a c xs
theorem qd.imp {α:Type}{sz:Nat}{R R':List Value→α→Prop}{μ J:M}{a:Option Addr}{c:Nat}{xs:List α}(h:qd sz R μ a c xs) (l:ha μ J) (f:∀ (i:Nat) (cs:List Value) (x:α),xs[i]?=some x→R cs x→R' cs x):qd sz R' J a c xs where
 le:=h.le
 cap:=h.cap
 el:=by
  rcases h.el with h | ⟨b,o,j,g,e⟩
  ·exact .inl h
  ·exact .inr ⟨b,o,j,g,fun i x d=>⟨(e i x d).1.up l,f i _ x d (e i x d).2⟩⟩
theorem Na.up {α:Type}[mb α]{μ J:M}{a:Option Addr}{c:Nat}{xs:List α}(h:Na μ a c xs) (l:ha μ J):Na J a c xs:=qd.imp h l fun _ _ _ _=>mb.up l
theorem Na.nil {α:Type}[mb α]{μ:M}{a:Option Addr}:Na (α:=α) μ a 0 []:=⟨by simp,by simp,.inl rfl⟩
theorem Na.len {α:Type}{sz:Nat}{R:List Value→α→Prop}{μ:M}{a:Option Addr}{c:Nat}{xs:List α}(h:qd sz R μ a c xs):xs.length≤9223372036854775807:=Nat.le_trans h.le h.cap
instance:mb Int where
 sz:=1
 pos:=by decide
 cs _ l x:=l=[.int .i64 x]
 Gi h:=by rw [h];rfl
 up _ h:=h
 Fh h:=by rw [h];rfl
instance:mb Bool where
 sz:=1
 pos:=by decide
 cs _ l x:=l=[.bool x]
 Gi h:=by rw [h];rfl
 up _ h:=h
 Fh h:=by rw [h];rfl
instance {α:Type}[mb α]:mb (List α) where
 sz:=1
 pos:=by decide
 cs μ l xs:=∃ a c,l=[.slice a xs.length c]∧Na μ a c xs
 Gi h:=by obtain ⟨a,c,rfl,-⟩:=h;rfl
 up l h:=by obtain ⟨a,c,b,d⟩:=h;exact ⟨a,c,b,d.up l⟩
 Fh h:=by obtain ⟨a,c,rfl,-⟩:=h;rfl
instance:mb (List UInt8) where
 sz:=1
 pos:=by decide
 cs _ l x:=l=[S x]
 Gi h:=by rw [h];rfl
 up _ h:=h
 Fh h:=by rw [h];rfl
def i64 (n:Int):Option Int:=if -9223372036854775808≤n∧n≤9223372036854775807 then some n else none
def ml (n:Int):Int:=IntKind.i64.wrap n
def at_ {α:Type}(l:List α) (i:Int):Option α:=if 0≤i then l[i.toNat]? else none
def cut {α:Type}(l:List α) (i j:Int):Option (List α):=if 0≤i∧i≤j∧j≤l.length then some ((l.take j.toNat).drop i.toNat) else none
def cat (a b:List UInt8):Option (List UInt8):=if a.length+b.length≤9223372036854775807 then some (a++b) else none
def app {α:Type}(l:List α) (xs:List α):Option (List α):=if l.length+xs.length≤4294967296 then some (l++xs) else none
def quo (a b:Int):Option Int:=if b=0 then none else some (ml (a.tdiv b))
theorem ra {α β:Type}{o:Option α}{f:α→Option β}{r:β}(h:Option.bind o f=some r):∃ x,o=some x∧f x=some r:=Option.bind_eq_some_iff.1 h
theorem Xj {α:Type}{c:Prop}[Decidable c]{x y:α}{r:α}(a:c) (h:(if c then x else y)=r):x=r:=by rwa [if_pos a] at h
theorem zg {α:Type}{c:Prop}[Decidable c]{x y:α}{r:α}(a:¬ c) (h:(if c then x else y)=r):y=r:=by rwa [if_neg a] at h
theorem qI {n x:Int}(h:i64 n=some x):x=n∧-9223372036854775808≤n∧n≤9223372036854775807:=by
 unfold i64 at h;split at h
 ·rename_i a;exact ⟨(Option.some.inj h).symm,a⟩
 ·cases h
theorem jB {n x:Int}(h:i64 n=some x):IntKind.i64.wrap n=x:=by
 obtain ⟨rfl,a,b⟩:=qI h;exact wr (by omega)
theorem Ur {α:Type}{l:List α}{i:Int}{x:α}(h:at_ l i=some x):0≤i∧i<l.length∧l[i.toNat]?=some x:=by
 unfold at_ at h;split at h
 ·rename_i a;refine ⟨a,?_,h⟩;have:=(List.getElem?_eq_some_iff.1 h).1;omega
 ·cases h
theorem Bu {α:Type}{l ys:List α}{i j:Int}(h:cut l i j=some ys):(0≤i∧i≤j∧j≤l.length)∧ys=(l.take j.toNat).drop i.toNat:=by
 unfold cut at h;split at h
 ·rename_i a;exact ⟨a,(Option.some.inj h).symm⟩
 ·cases h
theorem rI {a b c:List UInt8}(h:cat a b=some c):c=a++b∧a.length+b.length≤9223372036854775807:=by
 unfold cat at h;split at h
 ·rename_i d;exact ⟨(Option.some.inj h).symm,d⟩
 ·cases h
theorem Cu {α:Type}{a b c:List α}(h:app a b=some c):c=a++b∧a.length+b.length≤4294967296:=by
 unfold app at h;split at h
 ·rename_i d;exact ⟨(Option.some.inj h).symm,d⟩
 ·cases h
structure Mt (v:Value) (sz:Nat) (i:Int) (b o:Nat):Prop where
 out:∃ a n c,v=.slice (some ⟨b,a,none⟩) n c∧0≤i∧i<n∧a+i.toNat*sz=o
theorem qd.elem {α:Type}{sz:Nat}{R:List Value→α→Prop}{μ:M}{a:Option Addr}{c:Nat}{xs:List α}{i:Int}{x:α}(h:qd sz R μ a c xs) (g:at_ xs i=some x) :
  ∃ b o cs,Mt (.slice a xs.length c) sz i b o∧Ba μ b o cs∧R cs x:=by
 obtain ⟨j,k,d⟩:=Ur g;rcases h.el with rfl | ⟨b,o,rfl,f,e⟩
 ·simp at d
 ·exact ⟨b,_,f i.toNat,⟨o,_,_,rfl,j,k,rfl⟩,(e _ _ d).1,(e _ _ d).2⟩
def Ua {α:Type}[mb α] (μ:M):List Value→List α→Prop
 | cells,[]=>cells=[]
 | cells,x::l=>∃ cs t,cells=cs++t∧mb.cs μ cs x∧Ua μ t l
theorem Ua.len {α:Type}[mb α]{μ:M}:∀ {l:List α}{cells:List Value},Ua μ cells l→cells.length=l.length*mb.sz α
 | [],cells,h=>by rw [Ua] at h; simp [h]
 | x::l,cells,h=>by
  rw [Ua] at h;obtain ⟨cs,t,rfl,a,b⟩:=h;simp [Ua.len b,mb.Gi a,Nat.add_mul,Nat.add_comm]
theorem Ua.up {α:Type}[mb α]{μ J:M}(oa:ha μ J):∀ {l:List α}{cells:List Value},Ua μ cells l→Ua J cells l
 | [],cells,h=>by rw [Ua] at h ⊢; exact h
 | x::l,cells,h=>by
  rw [Ua] at h ⊢;obtain ⟨cs,t,a,b,c⟩:=h;exact ⟨cs,t,a,mb.up oa b,Ua.up oa c⟩
theorem Ua.cat {α:Type}[mb α]{μ:M}{b:List α}{a:List Value}(k:Ua μ a b):∀ {l:List α}{cells:List Value},Ua μ cells l→Ua μ (cells++a) (l++b)
 | [],cells,h=>by rw [Ua] at h; subst h; exact k
 | x::l,cells,h=>by
  rw [Ua] at h;obtain ⟨cs,t,rfl,c,d⟩:=h;rw [List.cons_append,Ua];exact ⟨cs,t++a,by simp,c,Ua.cat k d⟩
theorem Ua.nil {α:Type}[mb α]{μ:M}:Ua μ [] ([]:List α):=rfl
theorem Ua.one {α:Type}[mb α]{μ:M}{cs:List Value}{x:α}(h:mb.cs μ cs x):Ua μ cs [x]:=⟨cs,[],by simp,h,rfl⟩
theorem Ua.cons {α:Type}[mb α]{μ:M}{cs t:List Value}{x:α}{l:List α}(h:mb.cs μ cs x) (k:Ua μ t l):Ua μ (cs++t) (x::l):=⟨cs,t,rfl,h,k⟩
theorem Ua.Fh {α:Type}[mb α]{μ:M}:∀ {l:List α}{cells:List Value},Ua μ cells l→cells.all xg=true
 | [],cells,h=>by rw [Ua] at h; simp [h]
 | x::l,cells,h=>by
  rw [Ua] at h;obtain ⟨cs,t,rfl,a,b⟩:=h;rw [List.all_append,mb.Fh a,Ua.Fh b];rfl
theorem Ua.get {α:Type}[mb α]{μ:M}:∀ {l:List α}{cells:List Value}{i:Nat}{x:α},Ua μ cells l→l[i]?=some x→mb.cs μ ((cells.drop (i*mb.sz α)).take (mb.sz α)) x
 | [],cells,i,x,h,a=>by simp at a
 | y::l,cells,i,x,h,a=>by
  rw [Ua] at h;obtain ⟨cs,t,rfl,b,c⟩:=h;cases i with
  | zero=>simp at a; subst a; simp [← mb.Gi b]; exact b
  | succ i =>
   simp at a;have:=Ua.get c a;have e:(i+1)*mb.sz α=cs.length+i*mb.sz α:=by rw [Nat.add_mul,mb.Gi b];omega
   rw [e,← List.drop_drop];simpa using this
theorem Na.cells {α:Type}[mb α]{μ:M}{a:Option Addr}{c:Nat}:∀ {xs:List α},Na μ a c xs→∃ cells,Ua μ cells xs∧(xs≠[]→∃ b o,a=some ⟨b,o,none⟩∧Ba μ b o cells):=by
 intro xs h;rcases h.el with rfl | ⟨b,o,rfl,g,n⟩
 ·exact ⟨[],rfl,fun h=>absurd rfl h⟩
 ·have key:∀ (l:List α) (k:Nat),xs.drop k=l→∃ cells,Ua μ cells l∧Ba μ b (o+k*mb.sz α) cells:=by
   intro l
   induction l with
   | nil=>intro k _; exact ⟨[],rfl,fun w _ j v d=>by simp at d⟩
   | cons x l p =>
    intro k i;have q:xs[k]?=some x:=by
     have:=congrArg (fun l=>l[0]?) i;simpa using this
    obtain ⟨cells,e,f⟩:=p (k+1) (by rw [← List.tail_drop,i];rfl);obtain ⟨r,m⟩:=n k x q;refine ⟨g k++cells,Ua.cons m e,fun w hw j v d=>?_⟩;rcases Nat.lt_or_ge j (g k).length with oa | oa
    ·rw [List.getElem?_append_left oa] at d;exact r w hw j v d
    ·rw [List.getElem?_append_right oa] at d;have:=f w hw _ v d;rw [mb.Gi m] at this oa;rw [show o+(k+1)*mb.sz α+(j - mb.sz α)=o+k*mb.sz α+j by rw [Nat.add_mul];omega] at this;exact this
  obtain ⟨cells,e,f⟩:=key xs 0 rfl;exact ⟨cells,e,fun _=>⟨b,o,rfl,by simpa using f⟩⟩
section
variable {P:Program}{Q:Exit→Act→World→Prop}{K:List Value→List Deferred→World→Prop}{fr Fa:List Value}{ds:List Deferred}{w:World}
variable {dst:Option Tmp}{ty:TypeId}{pos:String}{after:Array Edge}{g:Option (Nat×Bool)}
variable {da:World}{rs rs':List Qa}{μ:M}
variable {T:TypeId}{d:TypeDesc}{od:Bool}{Bd:List Value}{n m:Nat}
theorem qe {c:Code}(f:List Nat) (i:f.Nodup) (d:List ub→World→Prop) (j:∀ m w,d m w→opens m=f)
  (h:Ae P c (Exit.then (fun n w'=>∃ m Fa,n=F Fa ds∧Je m fr Fa∧d m w') Q) fr ds w)
  (k:∀ m t w,d m w→Q .normal (F (si t m fr) ds) w):Ae P c Q fr ds w:=⟨
 wp_mono h.out fun e a w' b=>by
  cases e with
  | normal =>
   obtain ⟨m,Fa,rfl,o,g⟩:=b;obtain ⟨qc,p⟩:=o.ex (by rw [j m w' g];exact i);have:=k m qc w' g;rw [← p] at this;exact this
  | exit id=>exact b
  | goto l=>exact b
  | ret=>exact b
  | panic q=>exact b
  | outgrown=>exact b⟩
theorem Ig {c:Code}(f:List Nat) (j:f.Nodup) (b:Nat→List ub→World→Prop) (g:∀ n m w,b n m w→opens m=f) (Td:Nat) (m0:List ub) (k:Je m0 fr fr) (h:b Td m0 w)
  (round:∀ n m t w,b n m w→Ae P c (Exit.then (fun l w'=>∃ d e Fa,l=F Fa ds∧Je e fr Fa∧b d e w'∧d<n) Q) (si t m fr) ds w):Ae P (.loop c) Q fr ds w:=by
 refine IJ (α:={ p:Nat×List ub // opens p.2=f }) f j (fun p=>p.1.2) (fun p=>p.2) (fun p w=>b p.1.1 p.1.2 w) (fun p _=>p.1.1) ⟨(Td,m0),g Td m0 w h⟩ k h fun p t w o=>?_;refine (round p.1.1 p.1.2 t w o).mono (oF fun a w' ⟨d,e,Fa,q,r,i,s⟩=>⟨⟨(d,e),g d e w' i⟩,Fa,q,r,i,s⟩)
theorem Yi {c:Operand}{x y:Code}{b:Bool}(a:qb fr c (.bool b)) (d:b=true→Ae P x Q fr ds w) (e:¬ b=true→Ae P y Q fr ds w):Ae P (.cond c x y) Q fr ds w :=
 Fp a d fun h=>e (by rw [h];simp)
theorem Ty {c:Operand}{x y:Code}{b:Bool}(a:qb fr c (.bool (!b))) (d:¬ b=true→Ae P x Q fr ds w) (e:b=true→Ae P y Q fr ds w):Ae P (.cond c x y) Q fr ds w :=
 Fp a (fun h=>d (by simpa using h)) fun h=>e (by simpa using h)
theorem BK {ops:Array Oper}{l:List Oper}{Ph Qh:List Value}{d:Nat}{b:Bool}(oa:vc fr d (.bool b)) (a:zc fr d (.bool true) Ph) (c:zc fr d (.bool false) Qh)
  (e:b=true→Uf P ops Q l Ph ds w) (f:¬ b=true→Uf P ops Q l Qh ds w):Uf P ops Q l fr ds w:=Dz oa a c e fun h=>f (by rw [h];simp)
theorem SJ {ops:Array Oper}{l:List Oper}{Ph Qh:List Value}{d:Nat}{b:Bool}(oa:vc fr d (.bool (!b))) (a:zc fr d (.bool true) Ph) (c:zc fr d (.bool false) Qh)
  (e:¬ b=true→Uf P ops Q l Ph ds w) (f:b=true→Uf P ops Q l Qh ds w):Uf P ops Q l fr ds w:=Dz oa a c (fun h=>e (by simpa using h)) fun h=>f (by simpa using h)
inductive ug:List Qa→Nat→List Qa→Prop where
 | z {rs:List Qa}:ug rs 0 rs
 | s {a r:Qa} {rs rs':List Qa} {k:Nat} (h:ug rs k (r::rs')):ug (a::rs) (k+1) (r::a::rs')
theorem ug.perm {k:Nat}{rs rs':List Qa}(h:ug rs k rs'):rs.Perm rs':=by
 induction h with
 | z=>exact .refl _
 | s _ a=>exact (a.cons _).trans (.swap _ _ _)
theorem _root_.Go.hc.Sep.Ia {k:Nat}{S bd:Nat→Prop}{A:World→Prop}(h:Sep S bd da w rs A) (a:ug rs k rs'):Sep S bd da w rs' A where
 keeps:=h.keeps
 all r d:=h.all r (a.perm.mem_iff.2 d)
 ti:=(a.perm.filterMap _).nodup_iff.1 h.ti
 new b e:=h.new b ((a.perm.filterMap _).mem_iff.2 e)
 aj:=h.aj.mono fun k _ c=>⟨c.1,fun hm=>c.2 ((a.perm.filterMap Qa.block).mem_iff.2 hm)⟩
theorem _root_.Go.hc.Sep.cx {r:Qa}{B:World→Prop}(h:ja μ da w (r::rs)) (hB:∀ w,r.holds w→B w):ja (fun w=>μ w∧B w) da w rs :=
 Sep.freeze h (d0 (α:=Qa)) ma.z (fun _ _=>.inl trivial) hB
theorem _root_.Go.hc.Sep.Il {α:Type}[mb α]{v:Value}{cells:List Value}{l:List α}(h:ja μ da w (.row v T (mb.sz α) n cells::rs)) (p:Ua μ cells l) (e:l.length=n) :
  ∃ J a c,v=.slice a l.length c∧ha μ J∧Na J a c l∧ja J da w rs:=by
 have q:Row w v T (mb.sz α) n cells:=h.all _ (List.mem_cons_self ..);have f:=Sep.cx (B:=fun w=>Row w v T (mb.sz α) n cells) h fun w hw=>hw;have hle:ha μ (fun w=>μ w∧Row w v T (mb.sz α) n cells):=fun w hw=>hw.1;rcases q.2 with ⟨rfl,rfl⟩ | ⟨g,o,cap,cur,rfl,D,r,s,E,F⟩
 ·obtain rfl:=List.eq_nil_of_length_eq_zero e;exact ⟨_,none,0,rfl,hle,Na.nil,f⟩
 ·subst e;refine ⟨_,some ⟨g,o,none⟩,cap,rfl,hle,⟨r,s,.inr ⟨g,o,rfl,fun i=>(cells.drop (i*mb.sz α)).take (mb.sz α),fun i x k=>⟨?_,?_⟩⟩⟩,f⟩
  ·intro G t j u d;obtain ⟨-,y⟩:=t;have z:0<l.length:=by have:=(List.getElem?_eq_some_iff.1 k).1;omega
   obtain ⟨b,H,c,m,A⟩:=y.Sr z;simp at m;obtain ⟨⟨rfl,rfl⟩,rfl⟩:=m;have C:j<mb.sz α:=by
    have:=(List.getElem?_eq_some_iff.1 d).1;simp at this;omega
   rw [List.getElem?_take_of_lt C,List.getElem?_drop] at d;have:=A _ u d;rw [← Nat.add_assoc] at this;exact this
  ·exact mb.up hle (p.get k)
theorem _root_.Go.hc.Sep.zq {α:Type}[mb α]{b:Nat}{cells:List Value}{l:List α}(h:ja μ da w (.ba b T cells::rs)) (c:Ua μ cells l) (hlen:l.length≤maxLen) :
  ∃ J,ha μ J∧Na J (some ⟨b,0,none⟩) l.length l∧ja J da w rs:=by
 have d:=Sep.cx (B:=fun w=>Gj w b T cells) h fun w hw=>hw;have hle:ha μ (fun w=>μ w∧Gj w b T cells):=fun w hw=>hw.1;refine ⟨_,hle,⟨Nat.le_refl _,hlen,.inr ⟨b,0,rfl,fun i=>(cells.drop (i*mb.sz α)).take (mb.sz α),fun i x e=>⟨?_,mb.up hle (c.get e)⟩⟩⟩,d⟩;intro k f j u a;have g:j<mb.sz α:=by
  have:=(List.getElem?_eq_some_iff.1 a).1;simp at this;omega
 rw [List.getElem?_take_of_lt g,List.getElem?_drop] at a;have:=f.2.cells _ u a;rw [Nat.zero_add] at this ⊢;exact this
theorem _root_.Go.hc.Sep.re {b:Nat}{cells:List Value}(h:ja μ da w (.ba b T cells::rs)):∃ J,ha μ J∧Ba J b 0 cells∧ja J da w rs :=
 ⟨_,fun _ hw=>hw.1,fun _ hw=>hw.2.cells,Sep.cx (B:=fun w=>Gj w b T cells) h fun _ hw=>hw⟩
theorem _root_.Go.hc.Sep.uy {sz:Nat}{b k:Nat}{cells:List Value}{S bd:Nat→Prop}{A:World→Prop}(h:Sep S bd da w rs A) (oa:vc rs k (.ba b T cells)) (a:cells.length=n*sz) (hlen:n≤maxLen)
  (c:zc rs k (.row (.slice (some ⟨b,0,none⟩) n n) T sz n cells) rs'):Sep S bd da w rs' A:=by
 have d:Gj w b T cells:=h.get oa;refine h.put (b:=b) oa rfl rfl c ⟨a,.inr ⟨b,0,n,⟨cells⟩,rfl,d,Nat.le_refl _,hlen,by simp [a],by simp [← a]⟩⟩ (ni.refl _)
theorem _root_.Go.hc.Row.elem {α:Type}[mb α]{v:Value}{cells:List Value}{l:List α}{i:Int}{x:α}(h:Row w v T (mb.sz α) n cells) (e:Ua μ cells l) (f:l.length=n) (g:at_ l i=some x) :
  ∃ b o cs,Mt v (mb.sz α) i b o∧(∀ w T,Row w v T (mb.sz α) n cells→kj w b o cs)∧mb.cs μ cs x:=by
 obtain ⟨k,m,p⟩:=Ur g;obtain ⟨b,o,c,rfl,t⟩:=h.Sr (by omega);subst f;refine ⟨b,o+i.toNat*mb.sz α,_,⟨o,_,_,rfl,k,m,rfl⟩,?_,e.get p⟩;intro y z q j u a;obtain ⟨ed,A,c',d,r⟩:=q.Sr (by omega);simp at d;obtain ⟨⟨rfl,rfl⟩,rfl⟩:=d;have s:j<mb.sz α:=by
  have:=(List.getElem?_eq_some_iff.1 a).1;simp at this;omega
 rw [List.getElem?_take_of_lt s,List.getElem?_drop] at a;have:=r _ u a;rw [← Nat.add_assoc] at this;exact this
theorem pd {x y:Operand}{v:Value}{b o sz:Nat}{k:IntKind}{i:Int}{e:TypeId}(a:P.underlying T=some (.slice e)) (d:Oc P e od Bd sz m) (f:qb fr x v) (h:qb fr y (.int k i)) (he:Mt v sz i b o):Lf P (Oper.mk dst (.indexAddr T x y) ty pos after g) fr ((.pointer (some ⟨b,o,none⟩))):=by
 obtain ⟨q,n,c,rfl,j,l,p⟩:=he.out;exact Vu a d f h ⟨j,l⟩ p
theorem Ju {x y:Operand}{v:Value}{b o sz:Nat}{k:IntKind}{i:Int}{e:TypeId}(a:P.underlying T=some (.slice e)) (c:Oc P e od Bd sz m) (d:qb fr x v) (f:qb fr y (.int k i)) (he:Mt v sz i b o) (j:ef fr dst ((.pointer (some ⟨b,o,none⟩))) Fa) (h:K Fa ds w):Md P (Oper.mk dst (.indexAddr T x y) ty pos after g) fr ds w K Q:=Ra (pd a c d f he) j h
theorem Ef {x y:Operand}{t qc:TypeId}{a b c:Int}(d:qb fr x (.int .i64 a)) (e:qb fr y (.int .i64 b)) (h:i64 (a+b)=some c):Lf P (Oper.mk dst (.binOp .add t x y qc) ty pos after g) fr ((.int .i64 c)):=Oy d e (jB h)
theorem ep {x y:Operand}{t qc:TypeId}{a b c:Int}(d:qb fr x (.int .i64 a)) (e:qb fr y (.int .i64 b)) (h:i64 (a+b)=some c) (f:ef fr dst ((.int .i64 c)) Fa) (k:K Fa ds w):Md P (Oper.mk dst (.binOp .add t x y qc) ty pos after g) fr ds w K Q:=Ra (Ef d e h) f k
theorem qt {x y:Operand}{t qc:TypeId}{a b c:Int}(d:qb fr x (.int .i64 a)) (e:qb fr y (.int .i64 b)) (h:i64 (a - b)=some c):Lf P (Oper.mk dst (.binOp .sub t x y qc) ty pos after g) fr ((.int .i64 c)):=Nw d e (jB h)
theorem Cw {a b c:Int}(h:quo a b=some c):b≠0∧IntKind.i64.wrap (a.tdiv b)=c:=by
 unfold quo at h;split at h
 ·cases h
 ·rename_i d;exact ⟨d,Option.some.inj h⟩
theorem sI {x y:Operand}{t:TypeId}{k:IntKind}{a:List UInt8}{i:Int}{c:UInt8}(b:P.underlying t=some .string) (d:qb fr x (S a)) (e:qb fr y (.int k i)) (h:at_ a i=some c):Lf P (Oper.mk dst (.index t x y) ty pos after g) fr (.int .u8 c.toNat):=oI b d e (Ur h).1 (Ur h).2.2
theorem Dw {x y:Operand}{t:TypeId}{k:IntKind}{a:List UInt8}{i:Int}{c:UInt8}(b:P.underlying t=some .string) (d:qb fr x (S a)) (e:qb fr y (.int k i)) (h:at_ a i=some c) (f:ef fr dst (.int .u8 c.toNat) Fa) (kk:K Fa ds w):Md P (Oper.mk dst (.index t x y) ty pos after g) fr ds w K Q:=Ra (sI b d e h) f kk
theorem qC {x y:Operand}{t qc:TypeId}{a b c:List UInt8}(d:qb fr x (S a)) (e:qb fr y (S b)) (h:cat a b=some c):Lf P (Oper.mk dst (.binOp .add t x y qc) ty pos after g) fr (S c):=by
 obtain ⟨rfl,oa⟩:=rI h;exact OJ d e oa
structure Nt (v:Value) (sz:Nat) (i j:Option Int) (b:Value):Prop where
 out:∃ a n c,v=.slice a n c∧0≤i.getD 0∧i.getD 0≤j.getD n∧j.getD n≤c∧b=.slice (if c=(i.getD 0).toNat then a else a.map (·.add ((i.getD 0).toNat*sz))) ((j.getD n).toNat - (i.getD 0).toNat) (c - (i.getD 0).toNat)
inductive ix (fr:List Value):Option Operand→Option Int→Prop where
 | n:ix fr none none
 | s {x:Operand} {i:Int} (h:qb fr x (.int .i64 i)):ix fr (some x) (some i)
theorem Iq {x:Operand}{Wj up:Option Operand}{v q:Value}{sz:Nat}{i j:Option Int}{e:TypeId}(f:P.underlying T=some (.slice e)) (k:Oc P e od Bd sz m) (l:qb fr x v) (t:ix fr Wj i) (r:ix fr up j) (he:Nt v sz i j q):Lf P (Oper.mk dst (.slice T x Wj up none) ty pos after g) fr q:=by
 obtain ⟨a,n,c,rfl,o,b,d,rfl⟩:=he.out;refine ⟨fun ds w=>?_⟩;cases t with
 | n =>
  cases r with
  | n =>
   simp at b d;simp [execOp,l ds,Instr.sliceAt,Instr.slice,run_underlying f,Instr.sliceBounds,k.sizeOf];try rfl
  | s h =>
   rename_i y i;simp at b d;have ia:i≤(c:Int):=d;simp [execOp,l ds,h ds,Instr.sliceAt,Instr.slice,run_underlying f,Instr.sliceBounds,Instr.sliceBound,asIntOf,k.sizeOf,b,ia];try rfl
 | s h =>
  rename_i y i;cases r with
  | n =>
   simp at o b d;simp [execOp,l ds,h ds,Instr.sliceAt,Instr.slice,run_underlying f,Instr.sliceBounds,Instr.sliceBound,asIntOf,k.sizeOf,o,b];try rfl
  | s u =>
   rename_i A p;simp at o b d;have ia:0≤p:=by omega
   have z:(p.toNat:Int)=p:=by omega
   simp [execOp,l ds,h ds,u ds,Instr.sliceAt,Instr.slice,run_underlying f,Instr.sliceBounds,Instr.sliceBound,asIntOf,k.sizeOf,o,b,d,ia,z];try rfl
theorem Na.Ot {α:Type}[mb α]{μ:M}{a:Option Addr}{c:Nat}{xs ys:List α}{i j:Option Int}(h:Na μ a c xs) (g:cut xs (i.getD 0) (j.getD xs.length)=some ys) :
  ∃ e c',Nt (.slice a xs.length c) (mb.sz α) i j (.slice e ys.length c')∧Na μ e c' ys:=by
 obtain ⟨⟨l,m,r⟩,rfl⟩:=Bu g;have hle:=h.le;refine ⟨(if c=(i.getD 0).toNat then a else a.map (·.add ((i.getD 0).toNat*mb.sz α))),c - (i.getD 0).toNat,⟨a,xs.length,c,rfl,l,m,by omega,?_⟩,?_⟩
 ·rw [show ((xs.take (j.getD ↑xs.length).toNat).drop (i.getD 0).toNat).length=(j.getD ↑xs.length).toNat - (i.getD 0).toNat by simp;omega]
 ·refine ⟨by simp;omega,by have:=h.cap;omega,?_⟩;rcases h.el with rfl | ⟨b,o,rfl,f,n⟩
  ·left;simp
  ·by_cases p:c=(i.getD 0).toNat
   ·left;rw [List.drop_eq_nil_iff];simp;omega
   ·right;rw [if_neg p];refine ⟨b,o+(i.getD 0).toNat*mb.sz α,by simp [Zj],fun k=>f ((i.getD 0).toNat+k),fun k x d=>?_⟩;rw [List.getElem?_drop] at d;have q:(i.getD 0).toNat+k<(j.getD ↑xs.length).toNat:=by
     have:=(List.getElem?_eq_some_iff.1 d).1;simp at this;omega
    rw [List.getElem?_take_of_lt q] at d;have:=n _ x d;rw [Nat.add_mul,← Nat.add_assoc] at this;exact this
end
end Go.Mc
namespace Go.Mc
open Go.hc Go.RowKit
section
variable {P:Program}{Q:Exit→Act→World→Prop}{K:List Value→List Deferred→World→Prop}{fr Fa:List Value}{ds:List Deferred}{w:World}
variable {dst:Option Tmp}{ty:TypeId}{pos:String}{after:Array Edge}{g:Option (Nat×Bool)}
variable {da:World}{rs rs':List Qa}{μ:M}
variable {T:TypeId}{d:TypeDesc}{od:Bool}{Bd:List Value}{n m:Nat}
theorem kB {x Wj:Operand}{t:TypeId}{a b:List UInt8}{i:Int}(c:P.underlying t=some .string) (d:qb fr x (S a)) (e:qb fr Wj (.int .i64 i)) (h:cut a i a.length=some b):Lf P (Oper.mk dst (.slice t x (some Wj) none none) ty pos after g) fr (S b):=by
 obtain ⟨⟨f,j,k⟩,rfl⟩:=Bu h;have:=WG (dst:=dst) (ty:=ty) (pos:=pos) (after:=after) (g:=g) c d e ⟨f,j⟩;simpa using this
theorem Tx {x up:Operand}{t:TypeId}{a b:List UInt8}{j:Int}(c:P.underlying t=some .string) (d:qb fr x (S a)) (e:qb fr up (.int .i64 j)) (h:cut a 0 j=some b):Lf P (Oper.mk dst (.slice t x none (some up) none) ty pos after g) fr (S b):=by
 obtain ⟨⟨k,f,i⟩,rfl⟩:=Bu h;have:=XG (dst:=dst) (ty:=ty) (pos:=pos) (after:=after) (g:=g) c d e ⟨f,i⟩;simpa using this
theorem _root_.Go.hc.Row.xg {v:Value}{sz n:Nat}{xs:List Value}(h:Row w v T sz n xs):xg v=true:=by
 rcases h.2 with ⟨rfl,_⟩ | ⟨g,o,cap,cur,rfl,_⟩<;>rfl
theorem xi {f:Nat}{xs ys:List Operand}{vs us:List Value}(a:ll fr xs vs) (hu:ll fr ys us):Lf P (Oper.mk dst (.makeFunc (.func f) ⟨xs⟩ ⟨ys⟩) ty pos after g) fr (.func (.func f) ⟨vs⟩ ⟨us⟩):=by
 refine ⟨fun ds w=>?_⟩;have b:=a ds;have c:=hu ds;simp [execOp,Instr.makeFunc,b,c]
theorem tI {f:Nat}{xs ys:List Operand}{vs us:List Value}(a:ll fr xs vs) (hu:ll fr ys us) (b:ef fr dst (.func (.func f) ⟨vs⟩ ⟨us⟩) Fa) (k:K Fa ds w):Md P (Oper.mk dst (.makeFunc (.func f) ⟨xs⟩ ⟨ys⟩) ty pos after g) fr ds w K Q:=Ra (xi a hu) b k
theorem Ua.app {α:Type}[mb α]{cells news:List Value}{l xs a:List α}(h:Ua μ cells l) (k:Ua μ news xs) (g:app l xs=some a):Ua μ (cells++news) a:=by
 obtain ⟨rfl,-⟩:=Cu g;exact Ua.cat k h
theorem fy {α:Type}{l xs a:List α}(g:app l xs=some a):a.length=l.length+xs.length∧l.length+xs.length≤4294967296:=by
 obtain ⟨rfl,h⟩:=Cu g;exact ⟨by simp,h⟩
theorem Bk {α:Type}[mb α]{t:TypeId}{s x:Operand}{v:Value}{bytes k b d c:Nat}{cells news:List Value}{l ys e:List α}(i:P.underlying t=some (.slice T)) (j:Oc P T od Bd (mb.sz α) bytes) (m:Bd.length=mb.sz α)
  (n:qb fr s v) (o:qb fr x (.slice (some ⟨b,0,none⟩) d c)) (p:ja μ da w rs) (oa:vc rs k (.row v T (mb.sz α) l.length cells)) (q:kj w b 0 news) (f:Ua μ news ys) (hm:ys.length=d) (r:app l ys=some e) (u:bytes≤4096)
  (h:∀ a w' rs',zc rs k (.row a T (mb.sz α) e.length (cells++news)) rs'→ja μ da w' rs'→Bh fr dst a fun Fa=>K Fa ds w') :
  Md P (Oper.mk dst (.call { callee:=.builtin .append,args:=#[s,x],argTypes:=#[t,t] }) ty pos after g) fr ds w K Q:=by
 obtain ⟨y,z⟩:=fy r;subst hm;refine bw i j (by simp [m,mb.pos]) n o p oa q f.len f.Fh ⟨z,u⟩ fun a w' rs' A=>h a w' rs' (by rw [y];exact A)
theorem _root_.Go.hc.kj.vg {b o:Nat}{cs:List Value}(h:kj w b o cs) (i n:Nat):kj w b (o+i) ((cs.drop i).take n):=by
 intro j v a;have c:j<n:=by
  have:=(List.getElem?_eq_some_iff.1 a).1;simp at this;omega
 rw [List.getElem?_take_of_lt c,List.getElem?_drop] at a;have:=h _ v a;rw [← Nat.add_assoc] at this;exact this
theorem Ba.vg {b o:Nat}{cs:List Value}(h:Ba μ b o cs) (i n:Nat):Ba μ b (o+i) ((cs.drop i).take n):=fun w hw=>(h w hw).vg i n
theorem Nc {x y:Operand}{b k:Nat}{cs vs:List Value}(d:Oc P T od Bd n m) (e:qb fr x (.pointer (some ⟨b,0,none⟩))) (f:qb fr y (.agg ⟨vs⟩)) (i:vs.length=n) (j:vs.all xg=true)
  {S bd:Nat→Prop}{A:World→Prop}(l:Sep S bd da w rs A) {a:TypeId}(oa:vc rs k (.ba b a cs)) (he:cs.length=n) (o:zc rs k (.ba b a vs) rs')
  (La:ef fr dst undef Fa) (h:∀ w',Sep S bd da w' rs' A→K Fa ds w'):Md P (Oper.mk dst (.store T x y) ty pos after g) fr ds w K Q:=by
 have key:∀ (vs cs pre:List Value),vs.length=cs.length→Kh (pre++cs) pre.length vs (pre++vs):=by
  intro vs
  induction vs with
  | nil=>intro cs pre h; cases cs with
   | nil=>exact .z
   | cons c cs=>simp at h
  | cons v vs p =>
   intro cs pre h;cases cs with
   | nil=>simp at h
   | cons c cs =>
    refine .s (cs1:=pre++v::cs) (by unfold zc;simp) (by simp) ?_;have:=p cs (pre++[v]) (by simpa using h);simpa using this
 exact DB d e f rfl i j l oa (by simpa using key vs cs [] (by omega)) (by simp) o La h
theorem Hr {pl:Array (Nat×Nat)}{xs:List (Nat×Operand)}{out:List Value}(a:Oc P T od Bd n m) (b:vi P T pl) (c:Xb fr pl Bd xs out):Lf P (Oper.mk dst (.build T ⟨xs⟩) ty pos after g) fr (.agg ⟨out⟩):=by
 refine ⟨fun ds w=>?_⟩;obtain ⟨z,d,e⟩:=a.zero (w:=w);have f:=c.run (ds:=ds);obtain ⟨k,h,j⟩:=b.out;have hm:=j w;have oa:((⟨xs⟩:Array (Nat×Operand)).map fun (i,x)=>(i,(F fr ds).eval x)).toList=xs.map fun p=>(p.1,(F fr ds).eval p.2):=by simp
 unfold execOp;simp only [Instr.build,Sem.run_bind,d,Result.andThen_ok,run_underlying h];rw [hm];simp only [Result.andThen_ok,e,oa];rw [f];simp
end
end Go.Mc
namespace Go.hc
theorem ga {α:Type}{a0 na a2 a3 a4 a5 Nb Lb Ob a9 v:α}{l:List α}{n:Nat}(h:vc l n v):vc (a0::na::a2::a3::a4::a5::Nb::Lb::Ob::a9::l) (n+10) v:=h
theorem wa {α:Type}{a0 na a2 a3 a4 a5 Nb Lb Ob a9 v:α}{l a:List α}{n:Nat}(h:zc l n v a):zc (a0::na::a2::a3::a4::a5::Nb::Lb::Ob::a9::l) (n+10) v (a0::na::a2::a3::a4::a5::Nb::Lb::Ob::a9::a):=by unfold zc at *;subst h;rfl
theorem qa {α:Type}{a0 na a2 a3 a4 a5 Nb Lb Ob a9 Dd yc a12 a fc b c Jc d e v:α}{l:List α}{n:Nat}(h:vc l n v):vc (a0::na::a2::a3::a4::a5::Nb::Lb::Ob::a9::Dd::yc::a12::a::fc::b::c::Jc::d::e::l) (n+20) v:=h
theorem eb {α:Type}{a0 na a2 a3 a4 a5 Nb Lb Ob a9 Dd yc a12 a fc b c Jc d e v:α}{l f:List α}{n:Nat}(h:zc l n v f):zc (a0::na::a2::a3::a4::a5::Nb::Lb::Ob::a9::Dd::yc::a12::a::fc::b::c::Jc::d::e::l) (n+20) v (a0::na::a2::a3::a4::a5::Nb::Lb::Ob::a9::Dd::yc::a12::a::fc::b::c::Jc::d::e::f):=by unfold zc at *;subst h;rfl
theorem Ha {α:Type}{a0 na a2 a3 a4 a5 Nb Lb Ob a9 Dd yc a12 a fc b c Jc d e a20 a21 a22 a23 a24 a25 a26 f a28 g v:α}{l:List α}{n:Nat}(h:vc l n v):vc (a0::na::a2::a3::a4::a5::Nb::Lb::Ob::a9::Dd::yc::a12::a::fc::b::c::Jc::d::e::a20::a21::a22::a23::a24::a25::a26::f::a28::g::l) (n+30) v:=h
theorem cc {α:Type}{a0 na a2 a3 a4 a5 Nb Lb Ob a9 Dd yc a12 a fc b c Jc d e a20 a21 a22 a23 a24 a25 a26 f a28 g v:α}{l i:List α}{n:Nat}(h:zc l n v i):zc (a0::na::a2::a3::a4::a5::Nb::Lb::Ob::a9::Dd::yc::a12::a::fc::b::c::Jc::d::e::a20::a21::a22::a23::a24::a25::a26::f::a28::g::l) (n+30) v (a0::na::a2::a3::a4::a5::Nb::Lb::Ob::a9::Dd::yc::a12::a::fc::b::c::Jc::d::e::a20::a21::a22::a23::a24::a25::a26::f::a28::g::i):=by unfold zc at *;subst h;rfl
theorem Wa {α:Type}{a0 na a2 a3 a4 a5 Nb Lb Ob a9 Dd yc a12 a fc b c Jc d e a20 a21 a22 a23 a24 a25 a26 f a28 g i a31 j k m o p a37 q r v:α}{l:List α}{n:Nat}(h:vc l n v):vc (a0::na::a2::a3::a4::a5::Nb::Lb::Ob::a9::Dd::yc::a12::a::fc::b::c::Jc::d::e::a20::a21::a22::a23::a24::a25::a26::f::a28::g::i::a31::j::k::m::o::p::a37::q::r::l) (n+40) v:=h
theorem kc {α:Type}{a0 na a2 a3 a4 a5 Nb Lb Ob a9 Dd yc a12 a fc b c Jc d e a20 a21 a22 a23 a24 a25 a26 f a28 g i a31 j k m o p a37 q r v:α}{l s:List α}{n:Nat}(h:zc l n v s):zc (a0::na::a2::a3::a4::a5::Nb::Lb::Ob::a9::Dd::yc::a12::a::fc::b::c::Jc::d::e::a20::a21::a22::a23::a24::a25::a26::f::a28::g::i::a31::j::k::m::o::p::a37::q::r::l) (n+40) v (a0::na::a2::a3::a4::a5::Nb::Lb::Ob::a9::Dd::yc::a12::a::fc::b::c::Jc::d::e::a20::a21::a22::a23::a24::a25::a26::f::a28::g::i::a31::j::k::m::o::p::a37::q::r::s):=by unfold zc at *;subst h;rfl
theorem sb {α:Type}{a0 na a2 a3 a4 a5 Nb Lb Ob a9 Dd yc a12 a fc b c Jc d e a20 a21 a22 a23 a24 a25 a26 f a28 g i a31 j k m o p a37 q r a40 s t u w x a46 y z a49 v:α}{l:List α}{n:Nat}(h:vc l n v):vc (a0::na::a2::a3::a4::a5::Nb::Lb::Ob::a9::Dd::yc::a12::a::fc::b::c::Jc::d::e::a20::a21::a22::a23::a24::a25::a26::f::a28::g::i::a31::j::k::m::o::p::a37::q::r::a40::s::t::u::w::x::a46::y::z::a49::l) (n+50) v:=h
theorem Wc {α:Type}{a0 na a2 a3 a4 a5 Nb Lb Ob a9 Dd yc a12 a fc b c Jc d e a20 a21 a22 a23 a24 a25 a26 f a28 g i a31 j k m o p a37 q r a40 s t u w x a46 y z a49 v:α}{l A:List α}{n:Nat}(h:zc l n v A):zc (a0::na::a2::a3::a4::a5::Nb::Lb::Ob::a9::Dd::yc::a12::a::fc::b::c::Jc::d::e::a20::a21::a22::a23::a24::a25::a26::f::a28::g::i::a31::j::k::m::o::p::a37::q::r::a40::s::t::u::w::x::a46::y::z::a49::l) (n+50) v (a0::na::a2::a3::a4::a5::Nb::Lb::Ob::a9::Dd::yc::a12::a::fc::b::c::Jc::d::e::a20::a21::a22::a23::a24::a25::a26::f::a28::g::i::a31::j::k::m::o::p::a37::q::r::a40::s::t::u::w::x::a46::y::z::a49::A):=by unfold zc at *;subst h;rfl
theorem dc {α:Type}{a0 na a2 a3 a4 a5 Nb Lb Ob a9 Dd yc a12 a fc b c Jc d e a20 a21 a22 a23 a24 a25 a26 f a28 g i a31 j k m o p a37 q r a40 s t u w x a46 y z a49 A a51 B a53 C D E F G a59 v:α}{l:List α}{n:Nat}(h:vc l n v):vc (a0::na::a2::a3::a4::a5::Nb::Lb::Ob::a9::Dd::yc::a12::a::fc::b::c::Jc::d::e::a20::a21::a22::a23::a24::a25::a26::f::a28::g::i::a31::j::k::m::o::p::a37::q::r::a40::s::t::u::w::x::a46::y::z::a49::A::a51::B::a53::C::D::E::F::G::a59::l) (n+60) v:=h
theorem je {α:Type}{a0 na a2 a3 a4 a5 Nb Lb Ob a9 Dd yc a12 a fc b c Jc d e a20 a21 a22 a23 a24 a25 a26 f a28 g i a31 j k m o p a37 q r a40 s t u w x a46 y z a49 A a51 B a53 C D E F G a59 v:α}{l H:List α}{n:Nat}(h:zc l n v H):zc (a0::na::a2::a3::a4::a5::Nb::Lb::Ob::a9::Dd::yc::a12::a::fc::b::c::Jc::d::e::a20::a21::a22::a23::a24::a25::a26::f::a28::g::i::a31::j::k::m::o::p::a37::q::r::a40::s::t::u::w::x::a46::y::z::a49::A::a51::B::a53::C::D::E::F::G::a59::l) (n+60) v (a0::na::a2::a3::a4::a5::Nb::Lb::Ob::a9::Dd::yc::a12::a::fc::b::c::Jc::d::e::a20::a21::a22::a23::a24::a25::a26::f::a28::g::i::a31::j::k::m::o::p::a37::q::r::a40::s::t::u::w::x::a46::y::z::a49::A::a51::B::a53::C::D::E::F::G::a59::H):=by unfold zc at *;subst h;rfl
theorem xc {α:Type}{a0 na a2 a3 a4 a5 Nb Lb Ob a9 Dd yc a12 a fc b c Jc d e a20 a21 a22 a23 a24 a25 a26 f a28 g i a31 j k m o p a37 q r a40 s t u w x a46 y z a49 A a51 B a53 C D E F G a59 H K L M N O P Q R S v:α}{l:List α}{n:Nat}(h:vc l n v):vc (a0::na::a2::a3::a4::a5::Nb::Lb::Ob::a9::Dd::yc::a12::a::fc::b::c::Jc::d::e::a20::a21::a22::a23::a24::a25::a26::f::a28::g::i::a31::j::k::m::o::p::a37::q::r::a40::s::t::u::w::x::a46::y::z::a49::A::a51::B::a53::C::D::E::F::G::a59::H::K::L::M::N::O::P::Q::R::S::l) (n+70) v:=h
theorem Ed {α:Type}{a0 na a2 a3 a4 a5 Nb Lb Ob a9 Dd yc a12 a fc b c Jc d e a20 a21 a22 a23 a24 a25 a26 f a28 g i a31 j k m o p a37 q r a40 s t u w x a46 y z a49 A a51 B a53 C D E F G a59 H K L M N O P Q R S v:α}{l T:List α}{n:Nat}(h:zc l n v T):zc (a0::na::a2::a3::a4::a5::Nb::Lb::Ob::a9::Dd::yc::a12::a::fc::b::c::Jc::d::e::a20::a21::a22::a23::a24::a25::a26::f::a28::g::i::a31::j::k::m::o::p::a37::q::r::a40::s::t::u::w::x::a46::y::z::a49::A::a51::B::a53::C::D::E::F::G::a59::H::K::L::M::N::O::P::Q::R::S::l) (n+70) v (a0::na::a2::a3::a4::a5::Nb::Lb::Ob::a9::Dd::yc::a12::a::fc::b::c::Jc::d::e::a20::a21::a22::a23::a24::a25::a26::f::a28::g::i::a31::j::k::m::o::p::a37::q::r::a40::s::t::u::w::x::a46::y::z::a49::A::a51::B::a53::C::D::E::F::G::a59::H::K::L::M::N::O::P::Q::R::S::T):=by unfold zc at *;subst h;rfl
theorem pc {α:Type}{a0 na a2 a3 a4 a5 Nb Lb Ob a9 Dd yc a12 a fc b c Jc d e a20 a21 a22 a23 a24 a25 a26 f a28 g i a31 j k m o p a37 q r a40 s t u w x a46 y z a49 A a51 B a53 C D E F G a59 H K L M N O P Q R S a70 T a72 U V a75 a76 W X Y v:α}{l:List α}{n:Nat}(h:vc l n v):vc (a0::na::a2::a3::a4::a5::Nb::Lb::Ob::a9::Dd::yc::a12::a::fc::b::c::Jc::d::e::a20::a21::a22::a23::a24::a25::a26::f::a28::g::i::a31::j::k::m::o::p::a37::q::r::a40::s::t::u::w::x::a46::y::z::a49::A::a51::B::a53::C::D::E::F::G::a59::H::K::L::M::N::O::P::Q::R::S::a70::T::a72::U::V::a75::a76::W::X::Y::l) (n+80) v:=h
theorem Qd {α:Type}{a0 na a2 a3 a4 a5 Nb Lb Ob a9 Dd yc a12 a fc b c Jc d e a20 a21 a22 a23 a24 a25 a26 f a28 g i a31 j k m o p a37 q r a40 s t u w x a46 y z a49 A a51 B a53 C D E F G a59 H K L M N O P Q R S a70 T a72 U V a75 a76 W X Y v:α}{l Z:List α}{n:Nat}(h:zc l n v Z):zc (a0::na::a2::a3::a4::a5::Nb::Lb::Ob::a9::Dd::yc::a12::a::fc::b::c::Jc::d::e::a20::a21::a22::a23::a24::a25::a26::f::a28::g::i::a31::j::k::m::o::p::a37::q::r::a40::s::t::u::w::x::a46::y::z::a49::A::a51::B::a53::C::D::E::F::G::a59::H::K::L::M::N::O::P::Q::R::S::a70::T::a72::U::V::a75::a76::W::X::Y::l) (n+80) v (a0::na::a2::a3::a4::a5::Nb::Lb::Ob::a9::Dd::yc::a12::a::fc::b::c::Jc::d::e::a20::a21::a22::a23::a24::a25::a26::f::a28::g::i::a31::j::k::m::o::p::a37::q::r::a40::s::t::u::w::x::a46::y::z::a49::A::a51::B::a53::C::D::E::F::G::a59::H::K::L::M::N::O::P::Q::R::S::a70::T::a72::U::V::a75::a76::W::X::Y::Z):=by unfold zc at *;subst h;rfl
theorem Yc {α:Type}{a0 na a2 a3 a4 a5 Nb Lb Ob a9 Dd yc a12 a fc b c Jc d e a20 a21 a22 a23 a24 a25 a26 f a28 g i a31 j k m o p a37 q r a40 s t u w x a46 y z a49 A a51 B a53 C D E F G a59 H K L M N O P Q R S a70 T a72 U V a75 a76 W X Y a80 Z bb Gb gc a85 lc a87 rc fd v:α}{l:List α}{n:Nat}(h:vc l n v):vc (a0::na::a2::a3::a4::a5::Nb::Lb::Ob::a9::Dd::yc::a12::a::fc::b::c::Jc::d::e::a20::a21::a22::a23::a24::a25::a26::f::a28::g::i::a31::j::k::m::o::p::a37::q::r::a40::s::t::u::w::x::a46::y::z::a49::A::a51::B::a53::C::D::E::F::G::a59::H::K::L::M::N::O::P::Q::R::S::a70::T::a72::U::V::a75::a76::W::X::Y::a80::Z::bb::Gb::gc::a85::lc::a87::rc::fd::l) (n+90) v:=h
theorem mf {α:Type}{a0 na a2 a3 a4 a5 Nb Lb Ob a9 Dd yc a12 a fc b c Jc d e a20 a21 a22 a23 a24 a25 a26 f a28 g i a31 j k m o p a37 q r a40 s t u w x a46 y z a49 A a51 B a53 C D E F G a59 H K L M N O P Q R S a70 T a72 U V a75 a76 W X Y a80 Z bb Gb gc a85 lc a87 rc fd v:α}{l id:List α}{n:Nat}(h:zc l n v id):zc (a0::na::a2::a3::a4::a5::Nb::Lb::Ob::a9::Dd::yc::a12::a::fc::b::c::Jc::d::e::a20::a21::a22::a23::a24::a25::a26::f::a28::g::i::a31::j::k::m::o::p::a37::q::r::a40::s::t::u::w::x::a46::y::z::a49::A::a51::B::a53::C::D::E::F::G::a59::H::K::L::M::N::O::P::Q::R::S::a70::T::a72::U::V::a75::a76::W::X::Y::a80::Z::bb::Gb::gc::a85::lc::a87::rc::fd::l) (n+90) v (a0::na::a2::a3::a4::a5::Nb::Lb::Ob::a9::Dd::yc::a12::a::fc::b::c::Jc::d::e::a20::a21::a22::a23::a24::a25::a26::f::a28::g::i::a31::j::k::m::o::p::a37::q::r::a40::s::t::u::w::x::a46::y::z::a49::A::a51::B::a53::C::D::E::F::G::a59::H::K::L::M::N::O::P::Q::R::S::a70::T::a72::U::V::a75::a76::W::X::Y::a80::Z::bb::Gb::gc::a85::lc::a87::rc::fd::id):=by unfold zc at *;subst h;rfl
theorem ya {α:Type}{a0 na a2 a3 a4 a5 Nb Lb Ob a9 Dd yc a12 a fc b c Jc d e a20 a21 a22 a23 a24 a25 a26 f a28 g i a31 j k m o p a37 q r a40 s t u w x a46 y z a49 A a51 B a53 C D E F G a59 H K L M N O P Q R S a70 T a72 U V a75 a76 W X Y a80 Z bb Gb gc a85 lc a87 rc fd id a91 md a93 nd rd wd Fd Id be v:α}{l:List α}{n:Nat}(h:vc l n v):vc (a0::na::a2::a3::a4::a5::Nb::Lb::Ob::a9::Dd::yc::a12::a::fc::b::c::Jc::d::e::a20::a21::a22::a23::a24::a25::a26::f::a28::g::i::a31::j::k::m::o::p::a37::q::r::a40::s::t::u::w::x::a46::y::z::a49::A::a51::B::a53::C::D::E::F::G::a59::H::K::L::M::N::O::P::Q::R::S::a70::T::a72::U::V::a75::a76::W::X::Y::a80::Z::bb::Gb::gc::a85::lc::a87::rc::fd::id::a91::md::a93::nd::rd::wd::Fd::Id::be::l) (n+100) v:=h
theorem cb {α:Type}{a0 na a2 a3 a4 a5 Nb Lb Ob a9 Dd yc a12 a fc b c Jc d e a20 a21 a22 a23 a24 a25 a26 f a28 g i a31 j k m o p a37 q r a40 s t u w x a46 y z a49 A a51 B a53 C D E F G a59 H K L M N O P Q R S a70 T a72 U V a75 a76 W X Y a80 Z bb Gb gc a85 lc a87 rc fd id a91 md a93 nd rd wd Fd Id be v:α}{l ce:List α}{n:Nat}(h:zc l n v ce):zc (a0::na::a2::a3::a4::a5::Nb::Lb::Ob::a9::Dd::yc::a12::a::fc::b::c::Jc::d::e::a20::a21::a22::a23::a24::a25::a26::f::a28::g::i::a31::j::k::m::o::p::a37::q::r::a40::s::t::u::w::x::a46::y::z::a49::A::a51::B::a53::C::D::E::F::G::a59::H::K::L::M::N::O::P::Q::R::S::a70::T::a72::U::V::a75::a76::W::X::Y::a80::Z::bb::Gb::gc::a85::lc::a87::rc::fd::id::a91::md::a93::nd::rd::wd::Fd::Id::be::l) (n+100) v (a0::na::a2::a3::a4::a5::Nb::Lb::Ob::a9::Dd::yc::a12::a::fc::b::c::Jc::d::e::a20::a21::a22::a23::a24::a25::a26::f::a28::g::i::a31::j::k::m::o::p::a37::q::r::a40::s::t::u::w::x::a46::y::z::a49::A::a51::B::a53::C::D::E::F::G::a59::H::K::L::M::N::O::P::Q::R::S::a70::T::a72::U::V::a75::a76::W::X::Y::a80::Z::bb::Gb::gc::a85::lc::a87::rc::fd::id::a91::md::a93::nd::rd::wd::Fd::Id::be::ce):=by unfold zc at *;subst h;rfl
end Go.hc
namespace Go.hc
open Go.RowKit
section
variable {P:Program}{Q:Exit→Act→World→Prop}{K:List Value→List Deferred→World→Prop}{fr Fa:List Value}{ds:List Deferred}{w:World}
variable {dst:Option Tmp}{ty:TypeId}{pos:String}{after:Array Edge}{g:Option (Nat×Bool)}
variable {S bd:Nat→Prop}{da:World}{rs rs':List Qa}{A:World→Prop}
variable {T:TypeId}
inductive Dj:TypeDesc→Value→Prop where
 | str (l:List UInt8):Dj .string (hc.S l)
 | int (k:IntKind) (n:Int):Dj (.int k) (.int k n)
def gk:Value→Value→Bool
 | .string a,.string b=>decide (a.data.toList=b.data.toList)
 | .int _ a,.int _ b=>decide (a=b)
 | _,_=>false
def Bj (es:List MapEntry) (k:Value):Option (Nat×Value):=(es.zipIdx.find? fun e=>gk k e.1.key).map fun e=>(e.2,e.1.val)
theorem QE {d:TypeDesc}{k:Value}(a:Dj d k):∀ (es:List MapEntry) (i:Nat),(∀ e ∈ es,Dj d e.key)→Instr.findNow d k es i=some (((es.zipIdx i).find? fun e=>gk k e.1.key).map fun e=>(e.2,e.1.val)):=by
 intro es
 induction es with
 | nil=>intro i _; simp [Instr.findNow]
 | cons e es b =>
  intro i h;have he:=h e (by simp);have c:=b (i+1) fun x f=>h x (by simp [f]);simp only [Instr.findNow,List.zipIdx_cons,List.find?_cons];have g:Instr.sameNow d k e.key=some (gk k e.key):=by
   generalize e.key=k' at he;cases a with
   | str l =>
    cases he with
    | str j =>
     simp only [Instr.sameNow,hc.S,gk];congr 1;rw [Bool.eq_iff_iff,Sx];simp
   | int kk n =>
    cases he with
    | int _ m =>
     simp only [Instr.sameNow,if_true,gk];congr 1
  rw [g];cases o:gk k e.key with
  | true=>simp
  | false=>exact c
theorem run_findKey {hf:TypeId}{d:TypeDesc}{k:Value}{es:List MapEntry}(a:P.underlying hf=some d) (b:Dj d k) (he:∀ e ∈ es,Dj d e.key):(Instr.findKey hf k es).run P w=.ok (Bj es k) w:=by
 unfold Instr.findKey Bj;simp only [Sem.run_bind,run_underlying a,Result.andThen_ok,QE b es 0 he];rfl
theorem run_checkKey {hf:TypeId}{d:TypeDesc}{k:Value}{b:Bool}(a:P.underlying hf=some d) (c:Dj d k):(Instr.checkKey b 10000 hf k).run P w=.ok () w:=by
 show (Instr.checkKey b (9999+1) hf k).run P w=_;unfold Instr.checkKey;simp only [Sem.run_bind,run_underlying a,Result.andThen_ok];cases c<;>rfl
theorem Hl (a:Sep S bd da w rs A) (h:∀ b w',w.heap.size≤b→Sep S bd da w' (.map b [] 0::rs) A→Bh fr dst (.map (some b)) fun Fa=>K Fa ds w'):Md P (Oper.mk dst (.makeMap T none) ty pos after g) fr ds w K Q:=by
 obtain ⟨Fa,La⟩:=Wi fr dst (.map (some w.heap.size));refine Oh (v:=.map (some w.heap.size)) (w':=w.alloc (.map #[] 0)) ?_ La (h _ _ (Nat.le_refl _) (a.alloc rfl (heap_alloc_new w _)) Fa La);simp [execOp,Instr.makeMap]
def Jl (es:List MapEntry) (k z:Value):Value:=(Bj es k).elim z (·.2)
def Vr (es:List MapEntry) (k:Value):Bool:=(Bj es k).isSome
def putAt (es:List MapEntry) (c:Nat) (k v:Value):List MapEntry:=match Bj es k with
 | some (i,_)=>es.modify i fun e=>{ e with key:=k,val:=v }
 | none=>es++[{ key:=k,val:=v,born:=c }]
def Zi (es:List MapEntry) (c:Nat) (k:Value):Nat:=match Bj es k with
 | some _=>c
 | none=>c+1
theorem Dx {es:List MapEntry}{k v:Value}{i:Nat}(h:Bj es k=some (i,v)):∃ e,es[i]?=some e∧gk k e.key=true∧e.val=v:=by
 unfold Bj at h;cases a:es.zipIdx.find? fun e=>gk k e.1.key with
 | none=>rw [a] at h; cases h
 | some x =>
  rw [a] at h;simp only [Option.map_some,Option.some.injEq,Prod.mk.injEq] at h;obtain ⟨rfl,rfl⟩:=h;have b:=List.find?_some (p:=fun e:MapEntry×Nat=>gk k e.1.key) a;have c:=List.mem_of_find?_eq_some a;exact ⟨x.1,by have:=List.mem_zipIdx_iff_getElem?.1 c;simpa using this,b,rfl⟩
theorem SA {d:TypeDesc}{k k':Value}(b:Dj d k) (a:Dj d k') (h:gk k k'=true):Instr.sameBits 10000 k' k=true:=by
 cases b with
 | str l =>
  cases a with
  | str c =>
   simp [gk,hc.S] at h;subst h;simp only [Instr.sameBits,hc.S];exact (Sx _ _).2 rfl
 | int kk n =>
  cases a with
  | int _ e =>
   simp [gk] at h;subst h;simp [Instr.sameBits]
theorem rC {x y z:Operand}{hf aa:TypeId}{d:TypeDesc}{kv v:Value}{b c k:Nat}{es:List MapEntry}(m:P.underlying T=some (.map hf aa)) (n:P.underlying hf=some d) (o:qb fr x (.map (some b))) (p:qb fr y kv) (a:Dj d kv) (q:qb fr z v)
  (r:Sep S bd da w rs A) (oa:vc rs k (.map b es c)) (he:∀ e ∈ es,Dj d e.key)
  (La:ef fr dst undef Fa) (h:∀ w' rs',zc rs k (.map b (putAt es c kv v) (Zi es c kv)) rs'→Sep S bd da w' rs' A→K Fa ds w'):Md P (Oper.mk dst (.mapUpdate T x y z) ty pos after g) fr ds w K Q:=by
 have f:w.heap[b]?=some (.map ⟨es⟩ c):=r.get oa;have C:b<w.heap.size:=(Array.getElem?_eq_some_iff.1 f).1
 let w':World:={ w with heap:=w.heap.setIfInBounds b (.map ⟨putAt es c kv v⟩ (Zi es c kv)) }
 have D:ni (fun k=>k≠b) w w':=⟨rfl,rfl,rfl,by simp [w'],fun j _ E=>by simp [w',Array.getElem?_setIfInBounds,Ne.symm E]⟩;have F:=r.put (b:=b) (r':=.map b (putAt es c kv v) (Zi es c kv)) (w':=w') oa rfl rfl rfl (by show w'.heap[b]?=_;simp [w',C]) D;have s:=run_checkKey (P:=P) (w:=w) (b:=false) n a;have t:=run_findKey (P:=P) (w:=w) n a he;refine mz (w':=w') ?_ La (h w' _ rfl F);cases l:Bj es kv with
 | none=>simp [execOp,o ds,p ds,q ds,Instr.mapUpdate,run_underlying m,getObj,setObj,Sem.run,f,Result.andThen,s,t,l,w',putAt,Zi]
 | some e =>
  obtain ⟨i,u⟩:=e;obtain ⟨e,B,G,-⟩:=Dx l;have H:=SA a (he e (List.mem_of_getElem? B)) G;simp [execOp,o ds,p ds,q ds,Instr.mapUpdate,run_underlying m,getObj,setObj,Sem.run,f,Result.andThen,s,t,l,B,Instr.keyThatStays,H,w',putAt,Zi]
theorem aG {x:Operand}{hf aa:TypeId}{m c k:Nat}{es:List MapEntry}(d:P.underlying T=some (.map hf aa)) (e:qb fr x (.map (some m))) (a:Sep S bd da w rs A) (oa:vc rs k (.map m es c))
  (h:∀ b w',w.heap.size≤b→Sep S bd da w' (.Nl b m c [] c::rs) A→Bh fr dst (.pointer (some ⟨b,0,none⟩)) fun Fa=>K Fa ds w'):Md P (Oper.mk dst (.range T x) ty pos after g) fr ds w K Q:=by
 have f:w.heap[m]?=some (.map ⟨es⟩ c):=a.get oa;obtain ⟨Fa,La⟩:=Wi fr dst (.pointer (some ⟨w.heap.size,0,none⟩));refine Oh (v:=.pointer (some ⟨w.heap.size,0,none⟩)) (w':=w.alloc (.mapIter (some m) c #[] c)) ?_ La (h _ _ (Nat.le_refl _) (a.alloc rfl (heap_alloc_new w _)) Fa La);simp [execOp,e ds,Instr.range,run_underlying d,getObj,Sem.run,f,Result.andThen]
end
end Go.hc
namespace Go.Mc
open Go.hc Go.RowKit
section
variable {P:Program}{Q:Exit→Act→World→Prop}{K:List Value→List Deferred→World→Prop}{fr Fa:List Value}{ds:List Deferred}{w:World}
variable {dst:Option Tmp}{ty:TypeId}{pos:String}{after:Array Edge}{g:Option (Nat×Bool)}
variable {da:World}{rs rs':List Qa}{μ J:M}
variable {T:TypeId}{d:TypeDesc}{od:Bool}{Bd:List Value}{n m:Nat}
theorem FB {x y:Operand}{hf aa:TypeId}{d:TypeDesc}{kv z:Value}{b c:Nat}{es:List MapEntry}(a:P.underlying T=some (.map hf aa)) (f:P.underlying hf=some d) (i:qb fr x (.map (some b))) (j:qb fr y kv) (k:Dj d kv)
  (p:∀ w,(zeroValue aa).run P w=.ok z w) (l:w.heap[b]?=some (.map ⟨es⟩ c)) (he:∀ e ∈ es,Dj d e.key)
  (q:ef fr dst (Jl es kv z) Fa) (h:K Fa ds w):Md P (Oper.mk dst (.lookup T x y false) ty pos after g) fr ds w K Q:=by
 refine Oh (w':=w) ?_ q h;have m:=run_checkKey (w:=w) (b:=es.isEmpty) f k;have n:=run_findKey (w:=w) f k he;cases o:Bj es kv with
 | none=>simp [execOp,i ds,j ds,Instr.lookup,run_underlying a,getObj,Sem.run,l,Result.andThen,m,n,o,p w,Jl]
 | some e=>simp [execOp,i ds,j ds,Instr.lookup,run_underlying a,getObj,Sem.run,l,Result.andThen,m,n,o,Jl]
theorem lB {x y:Operand}{hf aa:TypeId}{d:TypeDesc}{kv z:Value}{b c:Nat}{es:List MapEntry}(a:P.underlying T=some (.map hf aa)) (f:P.underlying hf=some d) (i:qb fr x (.map (some b))) (j:qb fr y kv) (k:Dj d kv)
  (p:∀ w,(zeroValue aa).run P w=.ok z w) (l:w.heap[b]?=some (.map ⟨es⟩ c)) (he:∀ e ∈ es,Dj d e.key)
  (q:ef fr dst (.tuple #[Jl es kv z,.bool (Vr es kv)]) Fa) (h:K Fa ds w):Md P (Oper.mk dst (.lookup T x y true) ty pos after g) fr ds w K Q:=by
 refine Oh (w':=w) ?_ q h;have m:=run_checkKey (w:=w) (b:=es.isEmpty) f k;have n:=run_findKey (w:=w) f k he;cases o:Bj es kv with
 | none=>simp [execOp,i ds,j ds,Instr.lookup,run_underlying a,getObj,Sem.run,l,Result.andThen,m,n,o,p w,Jl,Vr]
 | some e=>simp [execOp,i ds,j ds,Instr.lookup,run_underlying a,getObj,Sem.run,l,Result.andThen,m,n,o,Jl,Vr]
class ub (κ:Type) [DecidableEq κ] where
 key:κ→Value
 Ud:TypeDesc
 hf:∀ k,Dj Ud (key k)
 eq:∀ a b,gk (key a) (key b)=decide (a=b)
instance:ub (List UInt8) where
 key:=S
 Ud:=.string
 hf:=.str
 eq a b:=by simp [gk,S]
class xh (β:Type) where
 Oi:M→Value→β→Prop
 up:∀ {μ J:M}{v:Value}{x:β},ha μ J→Oi μ v x→Oi J v x
instance:xh Int where
 Oi _ v x:=v=.int .i64 x
 up _ h:=h
def Ds {α:Type}[mb α] (μ:M) (v:Value) (x:α):Prop:=∃ cs,v=.agg ⟨cs⟩∧mb.cs μ cs x
theorem Ds.up {α:Type}[mb α]{v:Value}{x:α}(l:ha μ J) (h:Ds μ v x):Ds J v x:=by
 obtain ⟨cs,a,b⟩:=h;exact ⟨cs,a,mb.up l b⟩
def Ke {α:Type}[mb α] (μ:M) (v:Value) (x:α):Prop:=∃ b o cs,v=.pointer (some ⟨b,o,none⟩)∧Ba μ b o cs∧mb.cs μ cs x
theorem Ke.up {α:Type}[mb α]{v:Value}{x:α}(l:ha μ J) (h:Ke μ v x):Ke J v x:=by
 obtain ⟨b,o,cs,a,c,d⟩:=h;exact ⟨b,o,cs,a,c.up l,mb.up l d⟩
def di {α:Type}[mb α] (μ:M) (v:Value):Option α→Prop
 | none=>v=.pointer none
 | some x=>Ke μ v x
theorem di.up {α:Type}[mb α]{v:Value}{x:Option α}(h:di μ v x) (l:ha μ J):di J v x:=by
 cases x with
 | none=>exact h
 | some x=>exact Ke.up l h
theorem di.xg {α:Type}[mb α]{v:Value}{x:Option α}(h:di μ v x):xg v=true:=by
 cases x with
 | none=>rw [show v=.pointer none from h]; rfl
 | some x=>obtain ⟨b,o,cs,rfl,-⟩:=h; rfl
theorem di.of {α:Type}[mb α]{b o:Nat}{cs:List Value}{x:α}(h:Ba μ b o cs) (k:mb.cs μ cs x):di μ (.pointer (some ⟨b,o,none⟩)) (some x):=⟨b,o,cs,rfl,h,k⟩
theorem di.get {α:Type}[mb α]{v:Value}{o:Option α}{x:α}(h:di μ v o) (g:o=some x):∃ b o cs,v=.pointer (some ⟨b,o,none⟩)∧Ba μ b o cs∧mb.cs μ cs x:=by
 subst g;exact h
instance {α:Type}[mb α]:mb (Option α) where
 sz:=1
 pos:=by decide
 cs μ l x:=∃ v,l=[v]∧di μ v x
 Gi h:=by obtain ⟨v,rfl,-⟩:=h;rfl
 up l h:=by obtain ⟨v,a,b⟩:=h;exact ⟨v,a,b.up l⟩
 Fh h:=by obtain ⟨v,rfl,h⟩:=h;simp [h.xg]
def ob {κ β:Type}[DecidableEq κ]:List (κ×β)→κ→Option β
 | [],_=>none
 | (a,b)::m,k=>if a=k then some b else ob m k
def Nd {κ β:Type}[DecidableEq κ]:List (κ×β)→κ→β→List (κ×β)
 | [],k,x=>[(k,x)]
 | (a,b)::m,k,x=>if a=k then (k,x)::m else (a,b)::Nd m k x
def Mg {κ β:Type}[DecidableEq κ] [ub κ] [xh β] (μ:M):List MapEntry→List (κ×β)→Prop
 | [],m=>m=[]
 | e::es,m=>∃ k x t,m=(k,x)::t∧e.key=ub.key k∧xh.Oi μ e.val x∧Mg μ es t
structure Hf {κ β:Type}[DecidableEq κ] [ub κ] [xh β] (μ:M) (es:List MapEntry) (c:Nat) (m:List (κ×β)):Prop where
 kv:Mg μ es m
 lt:∀ e ∈ es,e.born<c
 inc:es.Pairwise fun a b=>a.born<b.born
variable {κ β:Type}[DecidableEq κ] [ub κ] [xh β]
theorem Mg.up (l:ha μ J):∀ {es:List MapEntry}{m:List (κ×β)},Mg μ es m→Mg J es m
 | [],m,h=>by rw [Mg] at h ⊢; exact h
 | e::es,m,h=>by
  rw [Mg] at h ⊢;obtain ⟨k,x,t,a,b,c,d⟩:=h;exact ⟨k,x,t,a,b,xh.up l c,Mg.up l d⟩
theorem Hf.up {es:List MapEntry}{c:Nat}{m:List (κ×β)}(h:Hf μ es c m) (l:ha μ J):Hf J es c m:=⟨h.kv.up l,h.lt,h.inc⟩
theorem Mg.keys:∀ {es:List MapEntry}{m:List (κ×β)},Mg μ es m→∀ e ∈ es,Dj (ub.Ud (κ:=κ)) e.key
 | [],m,_,e,he=>by cases he
 | e::es,m,h,a,he=>by
  rw [Mg] at h;obtain ⟨k,x,t,d,b,f,c⟩:=h;rcases List.mem_cons.1 he with rfl | he
  ·rw [b];exact ub.hf k
  ·exact Mg.keys c a he
def ql (kv:Value):List MapEntry→Option (Nat×Value)
 | []=>none
 | e::es=>if gk kv e.key then some (0,e.val) else (ql kv es).map fun p=>(p.1+1,p.2)
theorem GB (kv:Value):∀ (es:List MapEntry) (i:Nat),(((es.zipIdx i).find? fun e=>gk kv e.1.key).map fun e=>(e.2,e.1.val))=(ql kv es).map fun p=>(p.1+i,p.2)
 | [],i=>rfl
 | e::es,i=>by
  rw [List.zipIdx_cons,List.find?_cons,ql];cases h:gk kv e.key with
  | true=>simp
  | false =>
   simp only [Bool.false_eq_true,if_false];rw [GB kv es (i+1),Option.map_map];congr 1;funext p;simp;omega
theorem Uv (es:List MapEntry) (kv:Value):Bj es kv=ql kv es:=by
 unfold Bj;rw [GB];cases ql kv es<;>simp
theorem Mg.look:∀ {es:List MapEntry}{m:List (κ×β)},Mg μ es m→∀ k:κ,(match ql (ub.key k) es with | none=>ob m k=none | some p=>∃ x,ob m k=some x∧xh.Oi μ p.2 x)
 | [],m,h,k=>by rw [Mg] at h; subst h; rfl
 | e::es,m,h,k=>by
  rw [Mg] at h;obtain ⟨k',x,t,rfl,d,f,g⟩:=h;rw [ql,ob,d,ub.eq];have a:=Mg.look g k;by_cases b:k=k'
  ·subst b;simp;exact f
  ·rw [if_neg (by simpa using b),if_neg (fun e=>b e.symm)];cases c:ql (ub.key k) es with
   | none=>rw [c] at a; exact a
   | some p=>rw [c] at a; exact a
theorem Mg.get {es:List MapEntry}{m:List (κ×β)}(h:Mg μ es m) (k:κ){z:Value}{zx:β}(b:xh.Oi μ z zx):xh.Oi μ (Jl es (ub.key k) z) ((ob m k).getD zx):=by
 have:=h.look k;unfold Jl;rw [Uv];cases a:ql (ub.key k) es with
 | none=>rw [a] at this; simp only at this; rw [this]; exact b
 | some p=>rw [a] at this; obtain ⟨x,c,d⟩:=this; rw [c]; exact d
theorem Mg.has {es:List MapEntry}{m:List (κ×β)}(h:Mg μ es m) (k:κ):Vr es (ub.key k)=(ob m k).isSome:=by
 have:=h.look k;unfold Vr;rw [Uv];cases a:ql (ub.key k) es with
 | none=>rw [a] at this; simp only at this; rw [this]; rfl
 | some p=>rw [a] at this; obtain ⟨x,b,c⟩:=this; rw [b]; rfl
theorem Mg.put:∀ {es:List MapEntry}{m:List (κ×β)},Mg μ es m→∀ (k:κ){v:Value}{x:β},xh.Oi μ v x→∀ c,Mg μ (match ql (ub.key k) es with | some (i,_)=>es.modify i fun e=>{ e with key:=ub.key k,val:=v } | none=>es++[{ key:=ub.key k,val:=v,born:=c }]) (Nd m k x)
 | [],m,h,k,v,x,a,c=>by
  rw [Mg] at h;subst h;exact ⟨k,x,[],rfl,rfl,a,rfl⟩
 | e::es,m,h,k,v,x,a,c=>by
  rw [Mg] at h;obtain ⟨k',g,t,rfl,d,j,l⟩:=h;rw [ql,Nd,d,ub.eq];have b:=Mg.put l k a c;by_cases f:k=k'
  ·subst f;simp;exact ⟨k,x,t,rfl,rfl,a,l⟩
  ·rw [if_neg (by simpa using f),if_neg (fun e=>f e.symm)];cases n:ql (ub.key k) es with
   | none=>rw [n] at b; exact ⟨k',g,_,rfl,d,j,b⟩
   | some p=>rw [n] at b; exact ⟨k',g,_,rfl,d,j,b⟩
theorem Hf.put {es:List MapEntry}{c:Nat}{m:List (κ×β)}(h:Hf μ es c m) (k:κ){v:Value}{x:β}(n:xh.Oi μ v x):Hf μ (putAt es c (ub.key k) v) (Zi es c (ub.key k)) (Nd m k x):=by
 have d:=h.kv.put k n c;have ia:∀ i,(es.modify i fun e=>{ e with key:=ub.key k,val:=v }).map (·.born)=es.map (·.born):=by
  intro i;refine List.ext_getElem (by simp) fun j w y=>?_;simp only [List.getElem_map,List.getElem_modify];split<;>rfl
 have o:∀ l:List MapEntry,l.map (·.born)=es.map (·.born)→∀ e ∈ l,e.born<c:=fun l oa e he=>by
  have hm:e.born ∈ es.map (·.born):=oa ▸ List.mem_map_of_mem he;obtain ⟨q,r,f⟩:=List.mem_map.1 hm;rw [← f];exact h.lt q r
 have s:∀ l:List MapEntry,l.map (·.born)=es.map (·.born)→l.Pairwise fun a b=>a.born<b.born:=fun l oa=>by
  have:(es.map (·.born)).Pairwise (·<·):=List.pairwise_map.2 h.inc;rw [← oa] at this;exact List.pairwise_map.1 this
 unfold putAt Zi;rw [Uv];cases g:ql (ub.key k) es with
 | some p =>
  obtain ⟨i,u⟩:=p;rw [g] at d;exact ⟨d,o _ (ia i),s _ (ia i)⟩
 | none =>
  rw [g] at d;refine ⟨d,fun e he=>?_,?_⟩
  ·rcases List.mem_append.1 he with he | he
   ·exact Nat.lt_succ_of_lt (h.lt e he)
   ·simp at he;subst he;exact Nat.lt_succ_self _
  ·rw [List.pairwise_append];refine ⟨h.inc,by simp,fun a t b f=>?_⟩;simp at f;subst f;exact h.lt a t
theorem Hf.nil {c:Nat}:Hf (κ:=κ) (β:=β) μ [] c []:=⟨rfl,by simp,by simp⟩
def lh (μ:M) (b:Nat) (m:List (κ×β)):Prop:=∃ es c,(∀ w,μ w→w.heap[b]?=some (.map ⟨es⟩ c))∧Hf μ es c m
theorem lh.up {b:Nat}{m:List (κ×β)}(h:lh μ b m) (l:ha μ J):lh J b m:=by
 obtain ⟨es,c,a,d⟩:=h;exact ⟨es,c,fun w hw=>a w (l w hw),d.up l⟩
theorem _root_.Go.hc.Sep.Hm {b c:Nat}{es:List MapEntry}{m:List (κ×β)}(h:ja μ da w (.map b es c::rs)) (hm:Hf μ es c m):∃ J,ha μ J∧lh J b m∧ja J da w rs :=
 ⟨_,fun _ hw=>hw.1,⟨es,c,fun _ hw=>hw.2,hm.up fun _ hw=>hw.1⟩,Sep.cx (B:=fun w=>w.heap[b]?=some (.map ⟨es⟩ c)) h fun _ hw=>hw⟩
theorem aH {x y:Operand}{hf aa:TypeId}{z:Value}{b c:Nat}{es:List MapEntry}{m:List (κ×β)}{k:κ}{zx:β}(a:P.underlying T=some (.map hf aa)) (d:P.underlying hf=some (ub.Ud (κ:=κ))) (e:qb fr x (.map (some b))) (f:qb fr y (ub.key k))
  (i:∀ w,(zeroValue aa).run P w=.ok z w) (j:xh.Oi μ z zx) (l:w.heap[b]?=some (.map ⟨es⟩ c)) (he:Hf μ es c m)
  (h:∀ v,xh.Oi μ v ((ob m k).getD zx)→Bh fr dst (.tuple #[v,.bool (ob m k).isSome]) fun Fa=>K Fa ds w):Md P (Oper.mk dst (.lookup T x y true) ty pos after g) fr ds w K Q:=by
 obtain ⟨Fa,La⟩:=Wi fr dst (.tuple #[Jl es (ub.key k) z,.bool (Vr es (ub.key k))]);refine lB a d e f (ub.hf k) i l he.kv.keys La ?_;rw [he.kv.has k] at La;exact h _ (he.kv.get k j) Fa La
theorem Tn {x y:Operand}{hf aa:TypeId}{z:Value}{b c:Nat}{es:List MapEntry}{m:List (κ×β)}{k:κ}{zx:β}(a:P.underlying T=some (.map hf aa)) (d:P.underlying hf=some (ub.Ud (κ:=κ))) (e:qb fr x (.map (some b))) (f:qb fr y (ub.key k))
  (i:∀ w,(zeroValue aa).run P w=.ok z w) (j:xh.Oi μ z zx) (l:w.heap[b]?=some (.map ⟨es⟩ c)) (he:Hf μ es c m)
  (h:∀ v,xh.Oi μ v ((ob m k).getD zx)→Bh fr dst v fun Fa=>K Fa ds w):Md P (Oper.mk dst (.lookup T x y false) ty pos after g) fr ds w K Q:=by
 obtain ⟨Fa,La⟩:=Wi fr dst (Jl es (ub.key k) z);refine FB a d e f (ub.hf k) i l he.kv.keys La ?_;exact h _ (he.kv.get k j) Fa La
theorem Mg.mD {α:Type}[mb α] [xh α] (hrv:∀ (v:Value) (x:α),xh.Oi μ v x→Ke μ v x){es:List MapEntry}{m:List (κ×α)}(h:Mg μ es m) (k:κ):di μ (Jl es (ub.key k) (.pointer none)) (ob m k):=by
 have:=h.look k;unfold Jl;rw [Uv];cases a:ql (ub.key k) es with
 | none=>rw [a] at this; simp only at this; rw [this]; rfl
 | some p=>rw [a] at this; obtain ⟨x,b,c⟩:=this; rw [b]; exact hrv _ _ c
theorem mB {α:Type}[mb α] [xh α] (hrv:∀ (v:Value) (x:α),xh.Oi μ v x→Ke μ v x){x y:Operand}{hf aa:TypeId}{b c:Nat}{es:List MapEntry}{m:List (κ×α)}{k:κ}(a:P.underlying T=some (.map hf aa)) (d:P.underlying hf=some (ub.Ud (κ:=κ))) (e:qb fr x (.map (some b))) (f:qb fr y (ub.key k))
  (i:∀ w,(zeroValue aa).run P w=.ok (.pointer none) w) (j:w.heap[b]?=some (.map ⟨es⟩ c)) (he:Hf μ es c m)
  (h:∀ v,di μ v (ob m k)→Bh fr dst (.tuple #[v,.bool (ob m k).isSome]) fun Fa=>K Fa ds w):Md P (Oper.mk dst (.lookup T x y true) ty pos after g) fr ds w K Q:=by
 obtain ⟨Fa,La⟩:=Wi fr dst (.tuple #[Jl es (ub.key k) (.pointer none),.bool (Vr es (ub.key k))]);refine lB a d e f (ub.hf k) i j he.kv.keys La ?_;rw [he.kv.has k] at La;exact h _ (he.kv.mD hrv k) Fa La
theorem cw {α:Type}[mb α] [xh α] (hrv:∀ (v:Value) (x:α),xh.Oi μ v x→Ke μ v x){x y:Operand}{hf aa:TypeId}{b c:Nat}{es:List MapEntry}{m:List (κ×α)}{k:κ}(a:P.underlying T=some (.map hf aa)) (d:P.underlying hf=some (ub.Ud (κ:=κ))) (e:qb fr x (.map (some b))) (f:qb fr y (ub.key k))
  (i:∀ w,(zeroValue aa).run P w=.ok (.pointer none) w) (j:w.heap[b]?=some (.map ⟨es⟩ c)) (he:Hf μ es c m)
  (h:∀ v,di μ v (ob m k)→Bh fr dst v fun Fa=>K Fa ds w):Md P (Oper.mk dst (.lookup T x y false) ty pos after g) fr ds w K Q:=by
 obtain ⟨Fa,La⟩:=Wi fr dst (Jl es (ub.key k) (.pointer none));refine FB a d e f (ub.hf k) i j he.kv.keys La ?_;exact h _ (he.kv.mD hrv k) Fa La
theorem Wr {aa:TypeId}{z:Value}(h:(P.info? aa).map (fun i=>i.zero)=some (some z)):∀ w,(zeroValue aa).run P w=.ok z w:=fun w=>by
 cases a:P.info? aa with
 | none=>rw [a] at h; cases h
 | some i =>
  rw [a] at h;simp only [Option.map_some,Option.some.injEq] at h;simp [zeroValue,typeInfo,a,h]
theorem xu {x y z:Operand}{hf aa:TypeId}{v:Value}{b c k:Nat}{es:List MapEntry}{kk:κ}{m:List (κ×β)}{xx:β}(d:P.underlying T=some (.map hf aa)) (e:P.underlying hf=some (ub.Ud (κ:=κ))) (f:qb fr x (.map (some b))) (i:qb fr y (ub.key kk)) (j:qb fr z v) (l:xh.Oi μ v xx)
  (n:ja μ da w rs) (oa:vc rs k (.map b es c)) (he:Hf μ es c m)
  (La:ef fr dst undef Fa) (h:∀ a c' w' rs',Hf μ a c' (Nd m kk xx)→zc rs k (.map b a c') rs'→ja μ da w' rs'→K Fa ds w'):Md P (Oper.mk dst (.mapUpdate T x y z) ty pos after g) fr ds w K Q :=
 rC d e f i (ub.hf kk) j n oa he.kv.keys La fun w' rs'=>h _ _ w' rs' (he.put kk l)
theorem Vk {x y z:Operand}{hf aa:TypeId}{v:Value}{b c k:Nat}{es:List MapEntry}{kk:κ}{m:List (κ×β)}{xx:β}(d:P.underlying T=some (.map hf aa)) (e:P.underlying hf=some (ub.Ud (κ:=κ))) (f:qb fr x (.map (some b))) (i:qb fr y (ub.key kk)) (j:qb fr z v) (l:xh.Oi μ v xx)
  (n:ja μ da w rs) (oa:vc rs k (.map b es c)) (he:Hf μ es c m)
  (La:ef fr dst undef Fa) (h:∀ a c' w' rs',Hf μ a c' (Nd m kk xx)→zc rs k (.map b a c') rs'→ja μ da w' rs'→K Fa ds w'):Md P (Oper.mk dst (.insert T x y z) ty pos after g) fr ds w K Q :=
 ⟨fun o p=>(xu (dst:=dst) (ty:=ty) (pos:=pos) (after:=after) (g:=g) d e f i j l n oa he La h).out o p⟩
end
end Go.Mc
namespace Go.hc
abbrev hi (m:List ub):List ub:=.k::m
abbrev ke (s:Nat) (m:List ub):List ub:=.o s::m
theorem Af {m:List ub}{a0:Value}{l a:List Value}(h:Je m l a):Je (hi m) (a0::l) (a0::a):=(.k h)
theorem Kb {m:List ub}{s:Nat}{a0 b:Value}{l a:List Value}(h:Je m l a):Je (ke s m) (a0::l) (b::a):=(.o h)
theorem Ci {t:Nat→Value}{m:List ub}{a0:Value}{l a:List Value}(h:We t m l a):We t (hi m) (a0::l) (a0::a):=(mk h)
theorem ve {t:Nat→Value}{m:List ub}{s:Nat}{a0:Value}{l a:List Value}(h:We t m l a):We t (ke s m) (a0::l) (t s::a):=(fb h)
abbrev pg (m:List ub):List ub:=.k::.k::m
abbrev ui (s:Nat) (m:List ub):List ub:=.o s::.o (s+1)::m
theorem ld {m:List ub}{a0 na:Value}{l a:List Value}(h:Je m l a):Je (pg m) (a0::na::l) (a0::na::a):=(.k (.k h))
theorem mg {m:List ub}{s:Nat}{a0 na b za:Value}{l a:List Value}(h:Je m l a):Je (ui s m) (a0::na::l) (b::za::a):=(.o (.o h))
theorem yg {t:Nat→Value}{m:List ub}{a0 na:Value}{l a:List Value}(h:We t m l a):We t (pg m) (a0::na::l) (a0::na::a):=(mk (mk h))
theorem Mi {t:Nat→Value}{m:List ub}{s:Nat}{a0 na:Value}{l a:List Value}(h:We t m l a):We t (ui s m) (a0::na::l) (t s::t (s+1)::a):=(fb (fb h))
abbrev xj (m:List ub):List ub:=.k::.k::.k::m
abbrev Hj (s:Nat) (m:List ub):List ub:=.o s::.o (s+1)::.o (s+2)::m
theorem ng {m:List ub}{a0 na a2:Value}{l a:List Value}(h:Je m l a):Je (xj m) (a0::na::a2::l) (a0::na::a2::a):=(.k (.k (.k h)))
theorem Pg {m:List ub}{s:Nat}{a0 na a2 b za Vd:Value}{l a:List Value}(h:Je m l a):Je (Hj s m) (a0::na::a2::l) (b::za::Vd::a):=(.o (.o (.o h)))
theorem Uj {t:Nat→Value}{m:List ub}{a0 na a2:Value}{l a:List Value}(h:We t m l a):We t (xj m) (a0::na::a2::l) (a0::na::a2::a):=(mk (mk (mk h)))
theorem hk {t:Nat→Value}{m:List ub}{s:Nat}{a0 na a2:Value}{l a:List Value}(h:We t m l a):We t (Hj s m) (a0::na::a2::l) (t s::t (s+1)::t (s+2)::a):=(fb (fb (fb h)))
abbrev Ni (m:List ub):List ub:=.k::.k::.k::.k::m
abbrev om (s:Nat) (m:List ub):List ub:=.o s::.o (s+1)::.o (s+2)::.o (s+3)::m
theorem Wf {m:List ub}{a0 na a2 a3:Value}{l a:List Value}(h:Je m l a):Je (Ni m) (a0::na::a2::a3::l) (a0::na::a2::a3::a):=(.k (.k (.k (.k h))))
theorem Rh {m:List ub}{s:Nat}{a0 na a2 a3 b za Vd Ub:Value}{l a:List Value}(h:Je m l a):Je (om s m) (a0::na::a2::a3::l) (b::za::Vd::Ub::a):=(.o (.o (.o (.o h))))
theorem pj {t:Nat→Value}{m:List ub}{a0 na a2 a3:Value}{l a:List Value}(h:We t m l a):We t (Ni m) (a0::na::a2::a3::l) (a0::na::a2::a3::a):=(mk (mk (mk (mk h))))
theorem yn {t:Nat→Value}{m:List ub}{s:Nat}{a0 na a2 a3:Value}{l a:List Value}(h:We t m l a):We t (om s m) (a0::na::a2::a3::l) (t s::t (s+1)::t (s+2)::t (s+3)::a):=(fb (fb (fb (fb h))))
abbrev jh (m:List ub):List ub:=.k::.k::.k::.k::.k::m
abbrev Gp (s:Nat) (m:List ub):List ub:=.o s::.o (s+1)::.o (s+2)::.o (s+3)::.o (s+4)::m
theorem Ue {m:List ub}{a0 na a2 a3 a4:Value}{l a:List Value}(h:Je m l a):Je (jh m) (a0::na::a2::a3::a4::l) (a0::na::a2::a3::a4::a):=(.k (.k (.k (.k (.k h)))))
theorem rl {m:List ub}{s:Nat}{a0 na a2 a3 a4 b za Vd Ub c:Value}{l a:List Value}(h:Je m l a):Je (Gp s m) (a0::na::a2::a3::a4::l) (b::za::Vd::Ub::c::a):=(.o (.o (.o (.o (.o h)))))
theorem Ch {t:Nat→Value}{m:List ub}{a0 na a2 a3 a4:Value}{l a:List Value}(h:We t m l a):We t (jh m) (a0::na::a2::a3::a4::l) (a0::na::a2::a3::a4::a):=(mk (mk (mk (mk (mk h)))))
theorem qs {t:Nat→Value}{m:List ub}{s:Nat}{a0 na a2 a3 a4:Value}{l a:List Value}(h:We t m l a):We t (Gp s m) (a0::na::a2::a3::a4::l) (t s::t (s+1)::t (s+2)::t (s+3)::t (s+4)::a):=(fb (fb (fb (fb (fb h)))))
abbrev ik (m:List ub):List ub:=.k::.k::.k::.k::.k::.k::m
abbrev Om (s:Nat) (m:List ub):List ub:=.o s::.o (s+1)::.o (s+2)::.o (s+3)::.o (s+4)::.o (s+5)::m
theorem dh {m:List ub}{a0 na a2 a3 a4 a5:Value}{l a:List Value}(h:Je m l a):Je (ik m) (a0::na::a2::a3::a4::a5::l) (a0::na::a2::a3::a4::a5::a):=(.k (.k (.k (.k (.k (.k h))))))
theorem yj {m:List ub}{s:Nat}{a0 na a2 a3 a4 a5 b za Vd Ub c d:Value}{l a:List Value}(h:Je m l a):Je (Om s m) (a0::na::a2::a3::a4::a5::l) (b::za::Vd::Ub::c::d::a):=(.o (.o (.o (.o (.o (.o h))))))
theorem sl {t:Nat→Value}{m:List ub}{a0 na a2 a3 a4 a5:Value}{l a:List Value}(h:We t m l a):We t (ik m) (a0::na::a2::a3::a4::a5::l) (a0::na::a2::a3::a4::a5::a):=(mk (mk (mk (mk (mk (mk h))))))
theorem uo {t:Nat→Value}{m:List ub}{s:Nat}{a0 na a2 a3 a4 a5:Value}{l a:List Value}(h:We t m l a):We t (Om s m) (a0::na::a2::a3::a4::a5::l) (t s::t (s+1)::t (s+2)::t (s+3)::t (s+4)::t (s+5)::a):=(fb (fb (fb (fb (fb (fb h))))))
abbrev Vj (m:List ub):List ub:=.k::.k::.k::.k::.k::.k::.k::m
abbrev dr (s:Nat) (m:List ub):List ub:=.o s::.o (s+1)::.o (s+2)::.o (s+3)::.o (s+4)::.o (s+5)::.o (s+6)::m
theorem eh {m:List ub}{a0 na a2 a3 a4 a5 Nb:Value}{l a:List Value}(h:Je m l a):Je (Vj m) (a0::na::a2::a3::a4::a5::Nb::l) (a0::na::a2::a3::a4::a5::Nb::a):=(.k (.k (.k (.k (.k (.k (.k h)))))))
theorem Ij {m:List ub}{s:Nat}{a0 na a2 a3 a4 a5 Nb b za Vd Ub c d Wg:Value}{l a:List Value}(h:Je m l a):Je (dr s m) (a0::na::a2::a3::a4::a5::Nb::l) (b::za::Vd::Ub::c::d::Wg::a):=(.o (.o (.o (.o (.o (.o (.o h)))))))
theorem Kk {t:Nat→Value}{m:List ub}{a0 na a2 a3 a4 a5 Nb:Value}{l a:List Value}(h:We t m l a):We t (Vj m) (a0::na::a2::a3::a4::a5::Nb::l) (a0::na::a2::a3::a4::a5::Nb::a):=(mk (mk (mk (mk (mk (mk (mk h)))))))
theorem Pt {t:Nat→Value}{m:List ub}{s:Nat}{a0 na a2 a3 a4 a5 Nb:Value}{l a:List Value}(h:We t m l a):We t (dr s m) (a0::na::a2::a3::a4::a5::Nb::l) (t s::t (s+1)::t (s+2)::t (s+3)::t (s+4)::t (s+5)::t (s+6)::a):=(fb (fb (fb (fb (fb (fb (fb h)))))))
abbrev Ol (m:List ub):List ub:=.k::.k::.k::.k::.k::.k::.k::.k::m
abbrev Pm (s:Nat) (m:List ub):List ub:=.o s::.o (s+1)::.o (s+2)::.o (s+3)::.o (s+4)::.o (s+5)::.o (s+6)::.o (s+7)::m
theorem Di {m:List ub}{a0 na a2 a3 a4 a5 Nb Lb:Value}{l a:List Value}(h:Je m l a):Je (Ol m) (a0::na::a2::a3::a4::a5::Nb::Lb::l) (a0::na::a2::a3::a4::a5::Nb::Lb::a):=(.k (.k (.k (.k (.k (.k (.k (.k h))))))))
theorem Jj {m:List ub}{s:Nat}{a0 na a2 a3 a4 a5 Nb Lb b za Vd Ub c d Wg e:Value}{l a:List Value}(h:Je m l a):Je (Pm s m) (a0::na::a2::a3::a4::a5::Nb::Lb::l) (b::za::Vd::Ub::c::d::Wg::e::a):=(.o (.o (.o (.o (.o (.o (.o (.o h))))))))
theorem Qm {t:Nat→Value}{m:List ub}{a0 na a2 a3 a4 a5 Nb Lb:Value}{l a:List Value}(h:We t m l a):We t (Ol m) (a0::na::a2::a3::a4::a5::Nb::Lb::l) (a0::na::a2::a3::a4::a5::Nb::Lb::a):=(mk (mk (mk (mk (mk (mk (mk (mk h))))))))
theorem vo {t:Nat→Value}{m:List ub}{s:Nat}{a0 na a2 a3 a4 a5 Nb Lb:Value}{l a:List Value}(h:We t m l a):We t (Pm s m) (a0::na::a2::a3::a4::a5::Nb::Lb::l) (t s::t (s+1)::t (s+2)::t (s+3)::t (s+4)::t (s+5)::t (s+6)::t (s+7)::a):=(fb (fb (fb (fb (fb (fb (fb (fb h))))))))
abbrev Lk (m:List ub):List ub:=.k::.k::.k::.k::.k::.k::.k::.k::.k::m
abbrev wo (s:Nat) (m:List ub):List ub:=.o s::.o (s+1)::.o (s+2)::.o (s+3)::.o (s+4)::.o (s+5)::.o (s+6)::.o (s+7)::.o (s+8)::m
theorem Ug {m:List ub}{a0 na a2 a3 a4 a5 Nb Lb Ob:Value}{l a:List Value}(h:Je m l a):Je (Lk m) (a0::na::a2::a3::a4::a5::Nb::Lb::Ob::l) (a0::na::a2::a3::a4::a5::Nb::Lb::Ob::a):=(.k (.k (.k (.k (.k (.k (.k (.k (.k h)))))))))
theorem qj {m:List ub}{s:Nat}{a0 na a2 a3 a4 a5 Nb Lb Ob b za Vd Ub c d Wg e Of:Value}{l a:List Value}(h:Je m l a):Je (wo s m) (a0::na::a2::a3::a4::a5::Nb::Lb::Ob::l) (b::za::Vd::Ub::c::d::Wg::e::Of::a):=(.o (.o (.o (.o (.o (.o (.o (.o (.o h)))))))))
theorem Pl {t:Nat→Value}{m:List ub}{a0 na a2 a3 a4 a5 Nb Lb Ob:Value}{l a:List Value}(h:We t m l a):We t (Lk m) (a0::na::a2::a3::a4::a5::Nb::Lb::Ob::l) (a0::na::a2::a3::a4::a5::Nb::Lb::Ob::a):=(mk (mk (mk (mk (mk (mk (mk (mk (mk h)))))))))
theorem er {t:Nat→Value}{m:List ub}{s:Nat}{a0 na a2 a3 a4 a5 Nb Lb Ob:Value}{l a:List Value}(h:We t m l a):We t (wo s m) (a0::na::a2::a3::a4::a5::Nb::Lb::Ob::l) (t s::t (s+1)::t (s+2)::t (s+3)::t (s+4)::t (s+5)::t (s+6)::t (s+7)::t (s+8)::a):=(fb (fb (fb (fb (fb (fb (fb (fb (fb h)))))))))
abbrev yf (m:List ub):List ub:=.k::.k::.k::.k::.k::.k::.k::.k::.k::.k::m
abbrev Re (s:Nat) (m:List ub):List ub:=.o s::.o (s+1)::.o (s+2)::.o (s+3)::.o (s+4)::.o (s+5)::.o (s+6)::.o (s+7)::.o (s+8)::.o (s+9)::m
theorem Dc {m:List ub}{a0 na a2 a3 a4 a5 Nb Lb Ob a9:Value}{l a:List Value}(h:Je m l a):Je (yf m) (a0::na::a2::a3::a4::a5::Nb::Lb::Ob::a9::l) (a0::na::a2::a3::a4::a5::Nb::Lb::Ob::a9::a):=(.k (.k (.k (.k (.k (.k (.k (.k (.k (.k h))))))))))
theorem oc {m:List ub}{s:Nat}{a0 na a2 a3 a4 a5 Nb Lb Ob a9 b za Vd Ub c d Wg e Of Mf:Value}{l a:List Value}(h:Je m l a):Je (Re s m) (a0::na::a2::a3::a4::a5::Nb::Lb::Ob::a9::l) (b::za::Vd::Ub::c::d::Wg::e::Of::Mf::a):=(.o (.o (.o (.o (.o (.o (.o (.o (.o (.o h))))))))))
theorem Bf {t:Nat→Value}{m:List ub}{a0 na a2 a3 a4 a5 Nb Lb Ob a9:Value}{l a:List Value}(h:We t m l a):We t (yf m) (a0::na::a2::a3::a4::a5::Nb::Lb::Ob::a9::l) (a0::na::a2::a3::a4::a5::Nb::Lb::Ob::a9::a):=(mk (mk (mk (mk (mk (mk (mk (mk (mk (mk h))))))))))
theorem af {t:Nat→Value}{m:List ub}{s:Nat}{a0 na a2 a3 a4 a5 Nb Lb Ob a9:Value}{l a:List Value}(h:We t m l a):We t (Re s m) (a0::na::a2::a3::a4::a5::Nb::Lb::Ob::a9::l) (t s::t (s+1)::t (s+2)::t (s+3)::t (s+4)::t (s+5)::t (s+6)::t (s+7)::t (s+8)::t (s+9)::a):=(fb (fb (fb (fb (fb (fb (fb (fb (fb (fb h))))))))))
abbrev Ee (m:List ub):List ub:=.k::.k::.k::.k::.k::.k::.k::.k::.k::.k::.k::.k::.k::.k::.k::.k::.k::.k::.k::.k::m
abbrev Uh (s:Nat) (m:List ub):List ub:=.o s::.o (s+1)::.o (s+2)::.o (s+3)::.o (s+4)::.o (s+5)::.o (s+6)::.o (s+7)::.o (s+8)::.o (s+9)::.o (s+10)::.o (s+11)::.o (s+12)::.o (s+13)::.o (s+14)::.o (s+15)::.o (s+16)::.o (s+17)::.o (s+18)::.o (s+19)::m
theorem Vb {m:List ub}{a0 na a2 a3 a4 a5 Nb Lb Ob a9 Dd yc a12 a fc b c Jc d e:Value}{l f:List Value}(h:Je m l f):Je (Ee m) (a0::na::a2::a3::a4::a5::Nb::Lb::Ob::a9::Dd::yc::a12::a::fc::b::c::Jc::d::e::l) (a0::na::a2::a3::a4::a5::Nb::Lb::Ob::a9::Dd::yc::a12::a::fc::b::c::Jc::d::e::f):=(.k (.k (.k (.k (.k (.k (.k (.k (.k (.k (.k (.k (.k (.k (.k (.k (.k (.k (.k (.k h))))))))))))))))))))
theorem De {m:List ub}{s:Nat}{a0 na a2 a3 a4 a5 Nb Lb Ob a9 Dd yc a12 b fc c d Jc e f g za Vd Ub i j Wg k Of Mf n p jd q r t u v w x:Value}{l a:List Value}(h:Je m l a):Je (Uh s m) (a0::na::a2::a3::a4::a5::Nb::Lb::Ob::a9::Dd::yc::a12::b::fc::c::d::Jc::e::f::l) (g::za::Vd::Ub::i::j::Wg::k::Of::Mf::n::p::jd::q::r::t::u::v::w::x::a):=(.o (.o (.o (.o (.o (.o (.o (.o (.o (.o (.o (.o (.o (.o (.o (.o (.o (.o (.o (.o h))))))))))))))))))))
theorem He {t:Nat→Value}{m:List ub}{a0 na a2 a3 a4 a5 Nb Lb Ob a9 Dd yc a12 a fc b c Jc d e:Value}{l f:List Value}(h:We t m l f):We t (Ee m) (a0::na::a2::a3::a4::a5::Nb::Lb::Ob::a9::Dd::yc::a12::a::fc::b::c::Jc::d::e::l) (a0::na::a2::a3::a4::a5::Nb::Lb::Ob::a9::Dd::yc::a12::a::fc::b::c::Jc::d::e::f):=(mk (mk (mk (mk (mk (mk (mk (mk (mk (mk (mk (mk (mk (mk (mk (mk (mk (mk (mk (mk h))))))))))))))))))))
theorem oi {t:Nat→Value}{m:List ub}{s:Nat}{a0 na a2 a3 a4 a5 Nb Lb Ob a9 Dd yc a12 b fc c d Jc e f:Value}{l a:List Value}(h:We t m l a):We t (Uh s m) (a0::na::a2::a3::a4::a5::Nb::Lb::Ob::a9::Dd::yc::a12::b::fc::c::d::Jc::e::f::l) (t s::t (s+1)::t (s+2)::t (s+3)::t (s+4)::t (s+5)::t (s+6)::t (s+7)::t (s+8)::t (s+9)::t (s+10)::t (s+11)::t (s+12)::t (s+13)::t (s+14)::t (s+15)::t (s+16)::t (s+17)::t (s+18)::t (s+19)::a):=(fb (fb (fb (fb (fb (fb (fb (fb (fb (fb (fb (fb (fb (fb (fb (fb (fb (fb (fb (fb h))))))))))))))))))))
abbrev Rf (m:List ub):List ub:=.k::.k::.k::.k::.k::.k::.k::.k::.k::.k::.k::.k::.k::.k::.k::.k::.k::.k::.k::.k::.k::.k::.k::.k::.k::.k::.k::.k::.k::.k::.k::.k::.k::.k::.k::.k::.k::.k::.k::.k::.k::.k::.k::.k::.k::.k::.k::.k::.k::.k::m
abbrev qn (s:Nat) (m:List ub):List ub:=.o s::.o (s+1)::.o (s+2)::.o (s+3)::.o (s+4)::.o (s+5)::.o (s+6)::.o (s+7)::.o (s+8)::.o (s+9)::.o (s+10)::.o (s+11)::.o (s+12)::.o (s+13)::.o (s+14)::.o (s+15)::.o (s+16)::.o (s+17)::.o (s+18)::.o (s+19)::.o (s+20)::.o (s+21)::.o (s+22)::.o (s+23)::.o (s+24)::.o (s+25)::.o (s+26)::.o (s+27)::.o (s+28)::.o (s+29)::.o (s+30)::.o (s+31)::.o (s+32)::.o (s+33)::.o (s+34)::.o (s+35)::.o (s+36)::.o (s+37)::.o (s+38)::.o (s+39)::.o (s+40)::.o (s+41)::.o (s+42)::.o (s+43)::.o (s+44)::.o (s+45)::.o (s+46)::.o (s+47)::.o (s+48)::.o (s+49)::m
theorem Vc {m:List ub}{a0 na a2 a3 a4 a5 Nb Lb Ob a9 Dd yc a12 a fc b c Jc d e a20 a21 a22 a23 a24 a25 a26 f a28 g i a31 j n o p q a37 r s a40 t u v w x a46 y z a49:Value}{l A:List Value}(h:Je m l A):Je (Rf m) (a0::na::a2::a3::a4::a5::Nb::Lb::Ob::a9::Dd::yc::a12::a::fc::b::c::Jc::d::e::a20::a21::a22::a23::a24::a25::a26::f::a28::g::i::a31::j::n::o::p::q::a37::r::s::a40::t::u::v::w::x::a46::y::z::a49::l) (a0::na::a2::a3::a4::a5::Nb::Lb::Ob::a9::Dd::yc::a12::a::fc::b::c::Jc::d::e::a20::a21::a22::a23::a24::a25::a26::f::a28::g::i::a31::j::n::o::p::q::a37::r::s::a40::t::u::v::w::x::a46::y::z::a49::A):=(.k (.k (.k (.k (.k (.k (.k (.k (.k (.k (.k (.k (.k (.k (.k (.k (.k (.k (.k (.k (.k (.k (.k (.k (.k (.k (.k (.k (.k (.k (.k (.k (.k (.k (.k (.k (.k (.k (.k (.k (.k (.k (.k (.k (.k (.k (.k (.k (.k (.k h))))))))))))))))))))))))))))))))))))))))))))))))))
theorem qi {m:List ub}{s:Nat}{a0 na a2 a3 a4 a5 Nb Lb Ob a9 Dd yc a12 b fc c d Jc e f a20 a21 a22 a23 a24 a25 a26 g a28 i j a31 k n p q r a37 t u a40 v w x y z a46 A B a49 C za Vd Ub D E Wg F Of Mf G H jd K L M N O P Q R S T U V W X Y Z bb Gb gc lc rc fd id md nd rd wd Fd Id be ce ge he le ne Ne of:Value}{l a:List Value}(h:Je m l a):Je (qn s m) (a0::na::a2::a3::a4::a5::Nb::Lb::Ob::a9::Dd::yc::a12::b::fc::c::d::Jc::e::f::a20::a21::a22::a23::a24::a25::a26::g::a28::i::j::a31::k::n::p::q::r::a37::t::u::a40::v::w::x::y::z::a46::A::B::a49::l) (C::za::Vd::Ub::D::E::Wg::F::Of::Mf::G::H::jd::K::L::M::N::O::P::Q::R::S::T::U::V::W::X::Y::Z::bb::Gb::gc::lc::rc::fd::id::md::nd::rd::wd::Fd::Id::be::ce::ge::he::le::ne::Ne::of::a):=(.o (.o (.o (.o (.o (.o (.o (.o (.o (.o (.o (.o (.o (.o (.o (.o (.o (.o (.o (.o (.o (.o (.o (.o (.o (.o (.o (.o (.o (.o (.o (.o (.o (.o (.o (.o (.o (.o (.o (.o (.o (.o (.o (.o (.o (.o (.o (.o (.o (.o h))))))))))))))))))))))))))))))))))))))))))))))))))
theorem ag {t:Nat→Value}{m:List ub}{a0 na a2 a3 a4 a5 Nb Lb Ob a9 Dd yc a12 a fc b c Jc d e a20 a21 a22 a23 a24 a25 a26 f a28 g i a31 j k n o p a37 q r a40 s u v w x a46 y z a49:Value}{l A:List Value}(h:We t m l A):We t (Rf m) (a0::na::a2::a3::a4::a5::Nb::Lb::Ob::a9::Dd::yc::a12::a::fc::b::c::Jc::d::e::a20::a21::a22::a23::a24::a25::a26::f::a28::g::i::a31::j::k::n::o::p::a37::q::r::a40::s::u::v::w::x::a46::y::z::a49::l) (a0::na::a2::a3::a4::a5::Nb::Lb::Ob::a9::Dd::yc::a12::a::fc::b::c::Jc::d::e::a20::a21::a22::a23::a24::a25::a26::f::a28::g::i::a31::j::k::n::o::p::a37::q::r::a40::s::u::v::w::x::a46::y::z::a49::A):=(mk (mk (mk (mk (mk (mk (mk (mk (mk (mk (mk (mk (mk (mk (mk (mk (mk (mk (mk (mk (mk (mk (mk (mk (mk (mk (mk (mk (mk (mk (mk (mk (mk (mk (mk (mk (mk (mk (mk (mk (mk (mk (mk (mk (mk (mk (mk (mk (mk (mk h))))))))))))))))))))))))))))))))))))))))))))))))))
theorem zp {t:Nat→Value}{m:List ub}{s:Nat}{a0 na a2 a3 a4 a5 Nb Lb Ob a9 Dd yc a12 b fc c d Jc e f a20 a21 a22 a23 a24 a25 a26 g a28 i j a31 k n o p q a37 r u a40 v w x y z a46 A B a49:Value}{l a:List Value}(h:We t m l a):We t (qn s m) (a0::na::a2::a3::a4::a5::Nb::Lb::Ob::a9::Dd::yc::a12::b::fc::c::d::Jc::e::f::a20::a21::a22::a23::a24::a25::a26::g::a28::i::j::a31::k::n::o::p::q::a37::r::u::a40::v::w::x::y::z::a46::A::B::a49::l) (t s::t (s+1)::t (s+2)::t (s+3)::t (s+4)::t (s+5)::t (s+6)::t (s+7)::t (s+8)::t (s+9)::t (s+10)::t (s+11)::t (s+12)::t (s+13)::t (s+14)::t (s+15)::t (s+16)::t (s+17)::t (s+18)::t (s+19)::t (s+20)::t (s+21)::t (s+22)::t (s+23)::t (s+24)::t (s+25)::t (s+26)::t (s+27)::t (s+28)::t (s+29)::t (s+30)::t (s+31)::t (s+32)::t (s+33)::t (s+34)::t (s+35)::t (s+36)::t (s+37)::t (s+38)::t (s+39)::t (s+40)::t (s+41)::t (s+42)::t (s+43)::t (s+44)::t (s+45)::t (s+46)::t (s+47)::t (s+48)::t (s+49)::a):=(fb (fb (fb (fb (fb (fb (fb (fb (fb (fb (fb (fb (fb (fb (fb (fb (fb (fb (fb (fb (fb (fb (fb (fb (fb (fb (fb (fb (fb (fb (fb (fb (fb (fb (fb (fb (fb (fb (fb (fb (fb (fb (fb (fb (fb (fb (fb (fb (fb (fb h))))))))))))))))))))))))))))))))))))))))))))))))))
theorem jb {m:List ub}{v a:Value}{l b:List Value}(h:Je m l b):Je (.i v::m) (a::l) (v::b):=.i h
theorem Za {l:List Value}:Je [] l l:=.z
end Go.hc
namespace Go.hc
open Go.RowKit
section
variable {P:Program}{Q:Exit→Act→World→Prop}{ops:Array Oper}{fr Fa:List Value}{ds:List Deferred}{w:World}
theorem mx (ops:Array Oper) (fr:List Value) (ds:List Deferred) (j:Nat):yielded ops (F fr ds).tmps j=match (ops[j]?).bind (·.dst) with | some s=>(match (F fr ds).eval (.tmp s) with | .bool b=>some b | _=>none) | none=>none:=by
 unfold yielded;cases h:(ops[j]?).bind (·.dst) with
 | none=>simp
 | some s =>
  simp only [Option.bind_some,F,Act.eval];cases a:(⟨fr⟩:Array Value)[s]? with
  | none =>
   have:(⟨fr⟩:Array Value).getD s undef=undef:=by simp [Array.getD_eq_getD_getElem?,a]
   first
    | (simp [a,undef]; done)
    | (rw [this]; simp [undef])
  | some v =>
   have:(⟨fr⟩:Array Value).getD s undef=v:=by simp [Array.getD_eq_getD_getElem?,a]
   first
    | (simp [a]; done)
    | (rw [this]; cases v <;> rfl)
theorem wanted_put {o p:Oper}{fr:List Value}{ds ds':List Deferred}{g:List Value→List Value}(g3:∀ (y:Operand),(∀ e,p.dst=some e→Lr y≠some e)→(F (g fr) ds).eval y=(F fr ds).eval y) (c:∀ e,p.dst=some e→(reads ops o).contains e=false) :
  Region.wanted o (yielded ops (F (g fr) ds').tmps)=Region.wanted o (yielded ops (F fr ds').tmps):=by
 have Xa:(F (g fr) ds').tmps=(F (g fr) ds).tmps:=rfl;have ia:(F fr ds').tmps=(F fr ds).tmps:=rfl;rw [Xa,ia];unfold Region.wanted;cases d:o.guard with
 | none=>rfl
 | some f =>
  obtain ⟨j,b⟩:=f;simp only;have:yielded ops (F (g fr) ds).tmps j=yielded ops (F fr ds).tmps j:=by
   rw [mx,mx];cases h:(ops[j]?).bind (·.dst) with
   | none=>rfl
   | some s =>
    simp only;rw [g3 (.tmp s) fun e he a=>by
     simp [Lr] at a;subst a;have:=c s he;unfold reads at this;rw [d] at this;simp [h] at this]
  first
   | rw [this]
   | simp [this]
theorem nB {o:Oper}{j d:Nat}{b ed:Bool}(a:o.guard=some (j,b)) (c:(ops[j]?).bind (·.dst)=some d) (oa:vc fr d (.bool ed)):Region.wanted o (yielded ops (F fr ds).tmps)=(ed == b):=by
 unfold Region.wanted;rw [a];simp only;have:yielded ops (F fr ds).tmps j=some ed:=by
  rw [mx,c];simp only;rw [aa oa ds]
 rw [this];cases b<;>cases ed<;>rfl
theorem xb {o:Oper}(a:o.guard=none):Region.wanted o (yielded ops (F fr ds).tmps)=true:=by simp [Region.wanted,a]
theorem jt {o:Oper}{j d:Nat}{b:Bool}(a:o.guard=some (j,b)) (c:(ops[j]?).bind (·.dst)=some d) (oa:vc fr d (.bool b)):Region.wanted o (yielded ops (F fr ds).tmps)=true :=
 (nB a c oa).trans (by cases b<;>rfl)
end
end Go.hc
namespace Go.hc
open Go.RowKit
section
variable {P:Program}{Q:Exit→Act→World→Prop}{ops:Array Oper}{fr Fa:List Value}{ds:List Deferred}{w:World}
def waits (ops:Array Oper) (R S:List Nat) (i:Nat):Bool:=S.all fun j=>j == i || S.any fun k=>(im ops j).contains k && R.contains k
theorem bm.later {R d:List Nat}(h:bm ops R d) (m:R.Nodup){i:Nat}{S:List Nat}(n:∀ j ∈ S,j=i∨∃ k ∈ S,k ∈ im ops j∧k ∈ R):∀ a c,d=a++i::c→i ∉ a→∀ j ∈ a,j ∉ S:=by
 induction h with
 | z=>intro a c h; simp at h
 | @s R d k p t r =>
  intro a c h o j b;cases a with
  | nil=>cases b
  | cons e a =>
   simp only [List.cons_append,List.cons.injEq] at h;obtain ⟨rfl,h⟩:=h;have he:k ∉ S:=fun hm=>by
    rcases n k hm with rfl | ⟨q,f,g,l⟩
    ·exact o (by simp)
    ·exact eA p g l
   rcases List.mem_cons.1 b with rfl | b
   ·exact he
   ·refine r (m.erase k) (fun j b=>?_) a c h (fun hm=>o (by simp [hm])) j b;rcases n j b with rfl | ⟨q,f,g,l⟩
    ·exact .inl rfl
    ·exact .inr ⟨q,f,g,(m.mem_erase_iff).2 ⟨fun e=>he (e ▸ f),l⟩⟩
end
end Go.hc
namespace Go.hc
open Go.RowKit
section
variable {P:Program}{Q:Exit→Act→World→Prop}{K:List Value→List Deferred→World→Prop}{fr Fa:List Value}{ds:List Deferred}{w:World}
variable {dst:Option Tmp}{ty:TypeId}{pos:String}{after:Array Edge}{g:Option (Nat×Bool)}
variable {S bd:Nat→Prop}{da:World}{rs rs':List Qa}{A:World→Prop}
variable {T:TypeId}{d:TypeDesc}{od:Bool}{Bd:List Value}{n m:Nat}
inductive tt (fr:List Value) (n:Nat):Nat→List (Nat×Operand)→List Value→Prop where
 | z {i:Nat}:tt fr n i [] []
 | s {i:Nat} {x:Operand} {v:Value} {cs rest:List Value} {xs:List (Nat×Operand)} (a:qb fr x v) (b:v.cells=⟨cs⟩) (c:cs.length=n) (t:tt fr n (i+1) xs rest):tt fr n i ((i,x)::xs) (cs++rest)
theorem tt.fill {i:Nat}{xs:List (Nat×Operand)}{cells:List Value}(h:tt fr n i xs cells):∀ a:List Value,a.length=i*n+cells.length →
  Instr.fill (fun i=>some (i*n,n)) ⟨a⟩ (xs.map fun p=>(p.1,(F fr ds).eval p.2))=some ⟨a.take (i*n)++cells⟩:=by
 induction h with
 | z=>intro a b; simp at b; simp [Instr.fill,← b]
 | @s i x v cs rest xs f g c t j =>
  intro a b;simp only [List.length_append] at b;have d:(i+1)*n=i*n+n:=by rw [Nat.add_mul,Nat.one_mul]
  simp only [List.map_cons,Instr.fill,f ds,g];have Xa:¬ (((⟨cs⟩:Array Value).size≠n || i*n+(⟨cs⟩:Array Value).size > (⟨a⟩:Array Value).size)=true):=by simp [c,b]
  rw [if_neg Xa];have k:=Bv cs (i*n) 0 a (by omega);have ia:(⟨cs⟩:Array Value).zipIdx.toList=cs.zipIdx 0:=by simp
  have e:(⟨cs⟩:Array Value).zipIdx.foldl (fun (cs:Array Value) (p:Value×Nat)=>cs.setIfInBounds (i*n+p.2) p.1) ⟨a⟩=⟨a.take (i*n+0)++cs++a.drop (i*n+0+cs.length)⟩:=by
   rw [← Array.foldl_toList,ia];exact k
  first
   | rw [e]
   | (erw [e])
  rw [j _ (by simp [d,c,b];omega)];congr 2;rw [d,c,Nat.add_zero];have:(a.take (i*n)++cs).length=i*n+n:=by simp [c];omega
  rw [← this,List.take_left,List.append_assoc]
theorem vy {e:TypeId}{len:Nat}{xs:List (Nat×Operand)}{cells:List Value}(f:P.underlying T=some (.slice e)) (c:Oc P e od Bd n m) (a:(decide (0<n) && decide (n≤1000) && decide (0<len) && decide (len≤1000))=true) (j:tt fr n 0 xs cells) (k:cells.length=len*n) (l:Sep S bd da w rs A)
  (h:∀ b w',w.heap.size≤b→Sep S bd da w' (.ba b e cells::rs) A→Bh fr dst (.slice (some ⟨b,0,none⟩) len len) fun Fa=>K Fa ds w'):Md P (Oper.mk dst (.buildSlice T len ⟨xs⟩) ty pos after g) fr ds w K Q:=by
 obtain ⟨Fa,La⟩:=Wi fr dst (.slice (some ⟨w.heap.size,0,none⟩) len len);refine Oh (v:=.slice (some ⟨w.heap.size,0,none⟩) len len) (w':=w.alloc (.cells ⟨cells⟩ e)) ?_ La (h _ _ (Nat.le_refl _) (l.alloc rfl (heap_alloc_new w _)) Fa La);obtain ⟨z,o,u⟩:=c.zero (w:=w);have q:=c.sizeOf (w:=w);simp only [Bool.and_eq_true,decide_eq_true_eq] at a;have hmul:len*n≤1000*1000:=Nat.mul_le_mul a.2 a.1.1.2;have r:¬ (len*n > 2 ^ 24):=by omega
 have s:¬ (len*n=0):=by
  have:=Nat.mul_pos a.1.2 a.1.1.1;omega
 have oa:((⟨xs⟩:Array (Nat×Operand)).map fun (i,x)=>(i,(F fr ds).eval x)).toList=xs.map fun p=>(p.1,(F fr ds).eval p.2):=by simp
 have d:=j.fill (ds:=ds) ((Array.range (len*n)).map (z.cells[· % z.cells.size]!)).toList (by simp [k]);simp only [execOp,Instr.buildSlice,Sem.run_bind,run_underlying f,Result.andThen_ok,q,if_neg r,if_neg s,o,Sem.run_pure,oa];have t:(⟨((Array.range (len*n)).map (z.cells[· % z.cells.size]!)).toList⟩:Array Value)=(Array.range (len*n)).map (z.cells[· % z.cells.size]!):=rfl;rw [t] at d;simp only [d];simp [newRow]
structure lv (P:Program) (c:Code) (Q:Exit→Act→World→Prop) (n:Nat) (fr:List Value) (ds:List Deferred) (w:World):Prop where
 out:Code.rounds P c Q n (F fr ds) w
theorem gy {c:Code}(n:Nat) (h:lv P c Q n fr ds w):Ae P (.loop c) Q fr ds w:=⟨wp_loop_rounds n h.out⟩
theorem rn {c:Code}{n:Nat}(h:Ae P c (Exit.then (fun a w=>∃ fr ds,a=F fr ds∧lv P c Q n fr ds w) Q) fr ds w):lv P c Q (n+1) fr ds w:=⟨by
 rw [rounds_succ];refine wp_mono h.out fun e a w b=>?_;cases e with
 | normal=>obtain ⟨fr,ds,rfl,h⟩:=b; exact h.out
 | exit id=>exact b
 | goto l=>exact b
 | ret=>exact b
 | panic d=>exact b
 | outgrown=>exact b⟩
theorem Rq {c:Code}{n:Nat}(h:lv P c Q n fr ds w):Exit.then (fun a w=>∃ fr ds,a=F fr ds∧lv P c Q n fr ds w) Q .normal (F fr ds) w:=⟨_,_,rfl,h⟩
theorem HB {f:Operand}{xs:List Operand}{tys:Array TypeId}{k:FuncId}{first cap vs:List Value}{R:Value→World→Prop}(b:jc P k) (c:qb fr f (.func (.func k) ⟨first⟩ ⟨cap⟩)) (d:ll fr xs vs)
  (i:Ic P k (first++vs++cap) w R) (h:∀ v w',R v w'→Bh fr dst v fun Fa=>K Fa ds w'):Md P (Oper.mk dst (.call { callee:=.value f,args:=⟨xs⟩,argTypes:=tys }) ty pos after g) fr ds w K Q:=by
 refine ey (args:=first++vs++cap) ?_ i h;have j:=c ds;have l:=d ds;have a:=b.out ⟨first++vs++cap⟩ w;have e:(⟨first⟩:Array Value)++(⟨vs⟩:Array Value)++(⟨cap⟩:Array Value)=⟨first++vs++cap⟩:=by
  apply Array.ext';simp
 simp only [List.append_assoc] at a e ⊢;simp [execOp,resolve,j,Deferred.ofValue,invoke,l];first
  | exact a
  | (simpa using a)
end
end Go.hc
namespace Go.Mc
open Go.hc Go.RowKit
section
variable {P:Program}{Q:Exit→Act→World→Prop}{K:List Value→List Deferred→World→Prop}{fr Fa:List Value}{ds:List Deferred}{w:World}
variable {dst:Option Tmp}{ty:TypeId}{pos:String}{after:Array Edge}{g:Option (Nat×Bool)}
variable {da:World}{rs rs':List Qa}{μ J:M}
variable {T:TypeId}{d:TypeDesc}{od:Bool}{Bd:List Value}{n m:Nat}
def okV (R:Value→World→Prop):Ending→World→Prop
 | .returned v,w=>R v w
 | _,_=>False
def Jq (P:Program) (fn:Func) (R:Value→World→Prop):Exit→Act→World→Prop
 | .panic _,_,_=>False
 | e,a,w=>bodyPostD P fn (okV R) e a w
theorem Du {f:FuncId}{fn:Func}{c:Code}{args frm:List Value}{R:Value→World→Prop}(d:P.funcs[f]?=some fn) (g:fn.body=some c)
  (i:args++List.replicate (fn.ntmps - args.length) undef=frm) (h:Ae P c (Jq P fn R) frm [] w):Ic P f args w R:=by
 refine ⟨Calls.mono (calls_of_wp_defers (R:=okV R) d g ?_) fun e w he=>by cases e<;>exact he⟩;subst i;have ia:(⟨args⟩:Array Value)++Array.replicate (fn.ntmps - args.length) undef=⟨args++List.replicate (fn.ntmps - args.length) undef⟩:=by
  apply Array.ext';simp
 have h:=wp_mono h.out (Q':=bodyPostD P fn (okV R)) fun e a w b=>by
  cases e<;>first | exact b | exact (False.elim b)
 simpa [F,ia] using h
structure ow (P:Program) (f:FuncId) (args:List Value) (w:World) (R:Value→World→Prop):Prop where
 out:∀ u,CallsD P f ⟨args⟩ u w fun e a w'=>a=u∧okV R e w'
theorem IB {f:FuncId}{fn:Func}{c:Code}{args frm:List Value}{R:Value→World→Prop}(d:P.funcs[f]?=some fn) (g:fn.body=some c)
  (j:args++List.replicate (fn.ntmps - args.length) undef=frm) (h:Ae P c (xp P fn R) frm [] w):ow P f args w R:=by
 refine ⟨fun u=>callsD_of_wp d g ?_⟩;subst j;have ia:(⟨args⟩:Array Value)++Array.replicate (fn.ntmps - args.length) undef=⟨args++List.replicate (fn.ntmps - args.length) undef⟩:=by
  apply Array.ext';simp
 have h:=wp_mono h.out (Q':=bodyPost P fn (okV R)) fun e a w b=>by
  cases e with
  | normal=>exact b
  | ret=>exact b
  | panic k=>exact b
  | exit i=>exact b
  | goto l=>exact b
  | outgrown=>exact b
 simpa [F,ia] using h
theorem yu {f:Operand}{xs:List Operand}{tys:Array TypeId}{k:FuncId}{cap vs:List Value}(a:qb fr f (.func (.func k) #[] ⟨cap⟩)) (b:ll fr xs vs)
  (c:ef fr dst undef Fa) (h:K Fa (⟨.fn (.func k) ⟨cap⟩,⟨vs⟩⟩::ds) w):Md P (Oper.mk dst (.defer { callee:=.value f,args:=⟨xs⟩,argTypes:=tys }) ty pos after g) fr ds w K Q:=by
 constructor;intro l d;have e:=a ds;have i:=b ds;have j:(execOp (F fr ds).eval (Oper.mk dst (.defer { callee:=.value f,args:=⟨xs⟩,argTypes:=tys }) ty pos after g)).run P w=.ok (.defer ⟨.fn (.func k) ⟨cap⟩,⟨vs⟩⟩) w:=by
  simp [execOp,resolve,e,Deferred.ofValue,i]
 unfold Oper.wp;rw [j];have:=d _ _ _ h;rw [← c _] at this;simpa [Oper.upon,F,Act.put] using this
theorem Uw {fn:Func}{R a:Value→World→Prop}{k:FuncId}{cap vs:List Value}(b:jc P k) (d:ow P k (vs++cap) w a) (h:∀ v w',a v w'→Jq P fn R .ret (F fr ds) w') :
  Jq P fn R .ret (F fr (⟨.fn (.func k) ⟨cap⟩,⟨vs⟩⟩::ds)) w:=by
 refine ⟨by simp,.func k,⟨cap⟩,k,⟨vs++cap⟩,rfl,?_,?_⟩
 ·have:=b.out ⟨vs++cap⟩ w;simp [invoke,this]
 ·refine (d.out .returning).mono fun e f w' he=>?_;obtain ⟨rfl,he⟩:=he;cases e with
  | returned v=>exact h v w' he
  | panicked c=>exact he.elim
  | outgrown=>exact he.elim
theorem ao {fn:Func}{R:Value→World→Prop}{a:List ResultVar}{vs:List Value}(b:fn.results=⟨a⟩) (c:Db P fr w a vs) (h:R (Zr vs) w):Jq P fn R .ret (F fr []) w :=
 ⟨_,dA b c,h⟩
def Ec (ms:List (Nat×List MapEntry×Nat)):List Qa:=(ms.map fun m=>.map m.1 m.2.1 m.2.2).reverse
def Kd (ms:List (Nat×List MapEntry×Nat)):List Value:=ms.map fun m=>.map (some m.1)
variable {κ β:Type}[DecidableEq κ] [ub κ] [xh β]
def ff (μ:M):List (Nat×List MapEntry×Nat)→List (List (κ×β))→Prop
 | [],Yd=>Yd=[]
 | m::ms,Yd=>∃ x t,Yd=x::t∧Hf μ m.2.1 m.2.2 x∧ff μ ms t
theorem ff.up (l:ha μ J):∀ {ms:List (Nat×List MapEntry×Nat)}{Yd:List (List (κ×β))},ff μ ms Yd→ff J ms Yd
 | [],Yd,h=>by rw [ff] at h ⊢; exact h
 | m::ms,Yd,h=>by
  rw [ff] at h ⊢;obtain ⟨x,t,a,b,c⟩:=h;exact ⟨x,t,a,b.up l,ff.up l c⟩
theorem ff.get:∀ {ms:List (Nat×List MapEntry×Nat)}{Yd:List (List (κ×β))}{i:Nat}{x:List (κ×β)},ff μ ms Yd→Yd[i]?=some x→∃ b es c,ms[i]?=some (b,es,c)∧Hf μ es c x
 | [],Yd,i,x,h,a=>by rw [ff] at h; subst h; simp at a
 | m::ms,Yd,i,x,h,a=>by
  rw [ff] at h;obtain ⟨y,t,rfl,d,e⟩:=h;cases i with
  | zero=>simp at a; subst a; exact ⟨m.1,m.2.1,m.2.2,rfl,d⟩
  | succ i=>simp at a; simpa using ff.get e a
theorem ff.set:∀ {ms:List (Nat×List MapEntry×Nat)}{Yd:List (List (κ×β))}{i:Nat}{e:Nat×List MapEntry×Nat}{x:List (κ×β)},ff μ ms Yd→Hf μ e.2.1 e.2.2 x→ff μ (ms.set i e) (Yd.set i x)
 | [],Yd,i,e,x,h,a=>by rw [ff] at h; subst h; simp [ff]
 | m::ms,Yd,i,e,x,h,a=>by
  rw [ff] at h;obtain ⟨y,t,rfl,c,b⟩:=h;cases i with
  | zero=>exact ⟨x,t,rfl,a,b⟩
  | succ i=>exact ⟨y,_,rfl,c,ff.set b a⟩
theorem ff.push:∀ {ms:List (Nat×List MapEntry×Nat)}{Yd:List (List (κ×β))}{e:Nat×List MapEntry×Nat}{x:List (κ×β)},ff μ ms Yd→Hf μ e.2.1 e.2.2 x→ff μ (ms++[e]) (Yd++[x])
 | [],Yd,e,x,h,a=>by rw [ff] at h; subst h; exact ⟨x,[],rfl,a,rfl⟩
 | m::ms,Yd,e,x,h,a=>by
  rw [ff] at h;obtain ⟨y,t,rfl,b,c⟩:=h;exact ⟨y,_,rfl,b,ff.push c a⟩
theorem ff.take:∀ {ms:List (Nat×List MapEntry×Nat)}{Yd:List (List (κ×β))}(j:Nat),ff μ ms Yd→ff μ (ms.take j) (Yd.take j)
 | [],Yd,j,h=>by rw [ff] at h; subst h; simp [ff]
 | m::ms,Yd,j,h=>by
  rw [ff] at h;obtain ⟨y,t,rfl,a,b⟩:=h;cases j with
  | zero=>simp [ff]
  | succ j=>exact ⟨y,_,rfl,a,ff.take j b⟩
theorem XD (ms:List (Nat×List MapEntry×Nat)) (e:Nat×List MapEntry×Nat):Ec (ms++[e])=.map e.1 e.2.1 e.2.2::Ec ms:=by simp [Ec]
theorem lE {ms:List (Nat×List MapEntry×Nat)}{i b c c':Nat}{es a:List MapEntry}(h:ms[i]?=some (b,es,c)):Kd (ms.set i (b,a,c'))=Kd ms:=by
 unfold Kd;refine List.ext_getElem? fun j=>?_;rw [List.getElem?_map,List.getElem?_map,List.getElem?_set];split
 ·rename_i d;subst d;have e:=(List.getElem?_eq_some_iff.1 h).1;rw [if_pos e,h];rfl
 ·rfl
theorem mE {ms:List (Nat×List MapEntry×Nat)}{i b c:Nat}{es:List MapEntry}(h:ms[i]?=some (b,es,c)):Qa.map b es c ∈ Ec ms:=by
 unfold Ec;rw [List.mem_reverse,List.mem_map];exact ⟨(b,es,c),List.mem_of_getElem? h,rfl⟩
theorem _root_.Go.hc.Sep.TJ {pre:List Qa}{ms:List (Nat×List MapEntry×Nat)}{i b c:Nat}{es:List MapEntry}(a:ja μ da w (pre++(Ec ms++rs))) (h:ms[i]?=some (b,es,c)):w.heap[b]?=some (.map ⟨es⟩ c):=
 a.all (.map b es c) (by simp [mE h])
theorem Row.mapElem {v:Value}{ms:List (Nat×List MapEntry×Nat)}{Yd:List (List (κ×β))}{i:Int}{x:List (κ×β)}(h:Row w v T 1 Yd.length (Kd ms)) (hm:ff μ ms Yd) (g:at_ Yd i=some x) :
  ∃ b o Mb es c,Mt v 1 i b o∧(∀ w T,Row w v T 1 Yd.length (Kd ms)→kj w b o [.map (some Mb)])∧ms[i.toNat]?=some (Mb,es,c)∧Hf μ es c x:=by
 obtain ⟨f,k,l⟩:=Ur g;obtain ⟨Mb,es,c,d,m⟩:=hm.get l;obtain ⟨b,o,q,rfl,r⟩:=h.Sr (by omega);refine ⟨b,o+i.toNat,Mb,es,c,⟨o,_,_,rfl,f,k,by simp⟩,fun s t n j u a=>?_,d,m⟩;obtain ⟨ed,y,c',e,p⟩:=n.Sr (by omega);simp at e;obtain ⟨⟨rfl,rfl⟩,rfl⟩:=e;cases j with
 | succ j=>simp at a
 | zero =>
  simp at a;subst a;have:(Kd ms)[i.toNat]?=some (.map (some Mb)):=by unfold Kd;rw [List.getElem?_map,d];rfl
  exact p _ _ this
theorem JB {x y z:Operand}{hf aa:TypeId}{v:Value}{pre:List Qa}{ms:List (Nat×List MapEntry×Nat)}{b c i:Nat}{es:List MapEntry}{kk:κ}{q:List (κ×β)}{xx:β}{Yd:List (List (κ×β))}(n:P.underlying T=some (.map hf aa)) (o:P.underlying hf=some (ub.Ud (κ:=κ))) (p:qb fr x (.map (some b))) (r:qb fr y (ub.key kk)) (s:qb fr z v) (t:xh.Oi μ v xx)
  (u:ja μ da w (pre++(Ec ms++rs))) (d:ms[i]?=some (b,es,c)) (he:Hf μ es c q) (hm:ff μ ms Yd)
  (La:ef fr dst undef Fa) (h:∀ f w',ff μ f (Yd.set i (Nd q kk xx))→Kd ms=Kd f→Yd.length=(Yd.set i (Nd q kk xx)).length→ja μ da w' (pre++(Ec f++rs))→K Fa ds w'):Md P (Oper.mk dst (.mapUpdate T x y z) ty pos after g) fr ds w K Q:=by
 have B:=(List.getElem?_eq_some_iff.1 d).1;have A:(pre++(Ec ms++rs))[pre.length+(ms.length - 1 - i)]?=some (.map b es c):=by
  rw [List.getElem?_append_right (by omega),Nat.add_sub_cancel_left,List.getElem?_append_left (by simp [Ec];omega)];unfold Ec;rw [List.getElem?_reverse (by simp;omega),List.length_map,show ms.length - 1 - (ms.length - 1 - i)=i by omega,List.getElem?_map,d];rfl
 refine rC n o p r (ub.hf kk) s u A he.kv.keys La fun w' rs' k l=>h _ w' (hm.set (e:=(b,putAt es c (ub.key kk) v,Zi es c (ub.key kk))) (he.put kk t)) (lE d).symm (by simp) ?_;unfold zc at k;subst k;have e:(pre++(Ec ms++rs)).set (pre.length+(ms.length - 1 - i)) (.map b (putAt es c (ub.key kk) v) (Zi es c (ub.key kk)))=pre++(Ec (ms.set i (b,putAt es c (ub.key kk) v,Zi es c (ub.key kk)))++rs):=by
  rw [List.set_append_right _ _ (by omega),Nat.add_sub_cancel_left,List.set_append_left _ _ (by simp [Ec];omega)];congr 2;unfold Ec;rw [List.map_set];refine List.ext_getElem? fun j=>?_;rcases Nat.lt_or_ge j ms.length with a | a
  ·rw [List.getElem?_set,List.getElem?_reverse (by simpa using a),List.getElem?_reverse (by simpa using a)];simp only [List.length_map,List.length_reverse,List.length_set,List.getElem?_set];by_cases m:ms.length - 1 - i=j
   ·rw [if_pos m,if_pos (by omega),if_pos (by omega),if_pos (by omega)]
   ·rw [if_neg m,if_neg (by omega)]
  ·rw [List.getElem?_eq_none (by simpa using a),List.getElem?_eq_none (by simpa using a)]
 rw [e] at l;exact l
theorem uI {t:TypeId}{s x:Operand}{v:Value}{bytes k b Mb c:Nat}{ms:List (Nat×List MapEntry×Nat)}{Yd d:List (List (κ×β))}(e:P.underlying t=some (.slice T)) (f:Oc P T od Bd 1 bytes) (i:Bd.length=1)
  (j:qb fr s v) (l:qb fr x (.slice (some ⟨b,0,none⟩) 1 c)) (m:ja μ da w rs) (oa:vc rs k (.row v T 1 Yd.length (Kd ms))) (n:kj w b 0 [.map (some Mb)]) (o:app Yd [([]:List (κ×β))]=some d) (p:bytes≤4096)
  (h:∀ a w' rs',zc rs k (.row a T 1 d.length (Kd ms++[.map (some Mb)])) rs'→ja μ da w' rs'→Bh fr dst a fun Fa=>K Fa ds w') :
  Md P (Oper.mk dst (.call { callee:=.builtin .append,args:=#[s,x],argTypes:=#[t,t] }) ty pos after g) fr ds w K Q:=by
 obtain ⟨q,r⟩:=fy o;refine bw e f (by simp [i]) j l m oa n rfl rfl ⟨r,p⟩ fun a w' rs' u=>h a w' rs' (by rw [q];exact u)
theorem _root_.Go.hc.Sep.UJ {pre:List Qa}{ms:List (Nat×List MapEntry×Nat)}{b c:Nat}{es:List MapEntry}(a:ja μ da w (pre++(.map b es c::(Ec ms++rs)))):ja μ da w (pre++(Ec (ms++[(b,es,c)])++rs)):=by
 rw [XD];exact a
theorem YD (ms:List (Nat×List MapEntry×Nat)) (b c:Nat) (es:List MapEntry):Kd ms++[.map (some b)]=Kd (ms++[(b,es,c)]):=by simp [Kd]
theorem _root_.Go.hc.Sep.nD {pre:List Qa}{ms:List (Nat×List MapEntry×Nat)}{j:Nat}(a:ja μ da w (pre++(Ec ms++rs))):ja μ da w (pre++(Ec (ms.take j)++rs)):=by
 have c:(pre++(Ec (ms.take j)++rs)).Sublist (pre++(Ec ms++rs)):=by
  refine (List.Sublist.refl pre).append (List.Sublist.append ?_ (List.Sublist.refl rs));unfold Ec;exact ((List.take_sublist j ms).map _).reverse
 refine ⟨a.keeps,fun r e=>a.all r (c.subset e),(c.filterMap _).nodup a.ti,fun b f=>a.new b ((c.filterMap _).subset f),?_⟩;refine a.aj.mono fun k _ d=>⟨d.1,fun hm=>d.2 ((c.filterMap Qa.block).subset hm)⟩
theorem Row.VJ {v:Value}{sz:Nat}{xs:List Value}{j:Int}(h:Row w v T sz n xs) (d:0≤j) (p:j≤n) :
  ∃ b,Nt v sz none (some j) b∧b.ownBlock=v.ownBlock∧∀ w T,Row w v T sz n xs→Row w b T sz j.toNat (xs.take (j.toNat*sz)):=by
 have oa:∀ w T,Row w v T sz n xs→(xs.take (j.toNat*sz)).length=j.toNat*sz:=fun w T h=>by
  rw [List.length_take,h.1];exact Nat.min_eq_left (Nat.mul_le_mul_right _ (by omega))
 rcases h.2 with ⟨rfl,rfl⟩ | ⟨g,o,cap,cur,rfl,q,r,s,t,u⟩
 ·have:j=0:=by omega
  subst this;exact ⟨.slice none 0 0,⟨none,0,0,rfl,by simp,by simp,by simp,by simp⟩,rfl,fun w T h=>⟨oa w T h,.inl ⟨rfl,rfl⟩⟩⟩
 ·refine ⟨.slice (some ⟨g,o,none⟩) j.toNat cap,⟨_,_,_,rfl,by simp,by simpa using d,by simp;omega,?_⟩,rfl,fun e f c=>⟨oa e f c,.inr ?_⟩⟩
  ·simp [Zj]
  ·rcases c.2 with ⟨a,_⟩ | ⟨x,y,z,i,a,k,k1,l,m,Xe⟩
   ·simp at a
   ·simp at a;obtain ⟨⟨rfl,rfl⟩,rfl⟩:=a;exact ⟨g,o,cap,i,rfl,k,by omega,l,m,by rw [← Xe,List.take_take,Nat.min_eq_left (Nat.mul_le_mul_right _ (by omega))]⟩
theorem Row.cutFrom {v:Value}{sz:Nat}{xs:List Value}{i:Int}(h:Row w v T sz n xs) (j:0≤i) (k:i≤n) :
  ∃ b,Nt v sz (some i) none b∧b.ownBlock=v.ownBlock∧∀ w T,Row w v T sz n xs→Row w b T sz (n - i.toNat) (xs.drop (i.toNat*sz)):=by
 have oa:∀ w T,Row w v T sz n xs→(xs.drop (i.toNat*sz)).length=(n - i.toNat)*sz:=fun w T h=>by
  rw [List.length_drop,h.1,Nat.sub_mul]
 rcases h.2 with ⟨rfl,rfl⟩ | ⟨g,o,cap,cur,rfl,p,q,r,s,t⟩
 ·have:i=0:=by omega
  subst this;exact ⟨.slice none 0 0,⟨none,0,0,rfl,by simp,by simp,by simp,by simp⟩,rfl,fun w T h=>⟨oa w T h,.inl ⟨rfl,by simp⟩⟩⟩
 ·refine ⟨_,⟨_,_,_,rfl,by simpa using j,by simpa using k,by simp;omega,rfl⟩,by simp only [Option.getD_some];split<;>simp [Value.ownBlock,Zj],fun l m c=>⟨oa l m c,.inr ?_⟩⟩;rcases c.2 with ⟨a,_⟩ | ⟨u,x,y,d,a,e,k1,z,A,Xe⟩
  ·simp at a
  ·simp at a;obtain ⟨⟨rfl,rfl⟩,rfl⟩:=a;have hmul:i.toNat*sz+(cap - i.toNat)*sz=cap*sz:=by rw [← Nat.add_mul];congr 1;omega
   by_cases f:cap=i.toNat
   ·refine ⟨g,o,cap - i.toNat,d,by simp [f],e,by omega,by omega,by omega,?_⟩;rw [show n - i.toNat=0 by omega,Nat.zero_mul,List.take_zero,List.drop_eq_nil_of_le (by rw [c.1];exact Nat.mul_le_mul_right _ (by omega))]
   ·refine ⟨g,o+i.toNat*sz,cap - i.toNat,d,by simp [f,Zj],e,by omega,by omega,by omega,?_⟩;rw [← Xe,← List.drop_drop,List.drop_take,Nat.sub_mul]
theorem Ua.drop {α:Type}[mb α]:∀ {l:List α}{cells:List Value}(i:Nat),Ua μ cells l→Ua μ (cells.drop (i*mb.sz α)) (l.drop i)
 | [],cells,i,h=>by rw [Ua] at h; subst h; simp [Ua]
 | x::l,cells,0,h=>by simpa using h
 | x::l,cells,i+1,h=>by
  rw [Ua] at h;obtain ⟨cs,t,rfl,a,b⟩:=h;have e:(i+1)*mb.sz α=cs.length+i*mb.sz α:=by rw [Nat.add_mul,mb.Gi a];omega
  rw [e,← List.drop_drop];simpa using Ua.drop i b
theorem Row.CK {α:Type}[mb α]{v:Value}{cells:List Value}{l b:List α}{i:Int}(h:Row w v T (mb.sz α) l.length cells) (hm:Ua μ cells l) (g:cut l i l.length=some b) :
  ∃ a c,Nt v (mb.sz α) (some i) none a∧a.ownBlock=v.ownBlock∧(∀ w T,Row w v T (mb.sz α) l.length cells→Row w a T (mb.sz α) b.length c)∧Ua μ c b:=by
 obtain ⟨⟨d,e,m⟩,rfl⟩:=Bu g;obtain ⟨a,ia,f,j⟩:=Row.cutFrom h d e;refine ⟨a,cells.drop (i.toNat*mb.sz α),ia,f,fun w T k=>?_,by simpa using hm.drop i.toNat⟩;have:=j w T k;simpa using this
theorem Row.DK {v:Value}{ms:List (Nat×List MapEntry×Nat)}{Yd b:List (List (κ×β))}{j:Int}(h:Row w v T 1 Yd.length (Kd ms)) (hm:ff μ ms Yd) (g:cut Yd 0 j=some b) :
  ∃ a c,Nt v 1 none (some j) a∧a.ownBlock=v.ownBlock∧(∀ w T,Row w v T 1 Yd.length (Kd ms)→Row w a T 1 b.length (Kd c))∧ff μ c b∧ms.take j.toNat=c:=by
 obtain ⟨⟨l,d,e⟩,rfl⟩:=Bu g;obtain ⟨a,ia,f,i⟩:=Row.VJ h d e;refine ⟨a,ms.take j.toNat,ia,f,fun w T k=>?_,by simpa using hm.take j.toNat,rfl⟩;have:=i w T k;have el:((Yd.take j.toNat).drop (0:Int).toNat).length=j.toNat:=by simp;omega
 rw [el];have Ma:Kd (ms.take j.toNat)=(Kd ms).take (j.toNat*1):=by simp [Kd]
 rw [Ma];exact this
theorem _root_.Go.hc.Sep.perm {S bd:Nat→Prop}{A:World→Prop}(h:Sep S bd da w rs A) (a:rs.Perm rs'):Sep S bd da w rs' A where
 keeps:=h.keeps
 all r d:=h.all r (a.mem_iff.2 d)
 ti:=(a.filterMap _).nodup_iff.1 h.ti
 new b e:=h.new b ((a.filterMap _).mem_iff.2 e)
 aj:=h.aj.mono fun k _ c=>⟨c.1,fun hm=>c.2 ((a.filterMap Qa.block).mem_iff.2 hm)⟩
theorem _root_.Go.hc.Sep.Og {a p M R:List Qa}(h:ja μ da w (a++(p++(M++R)))):ja μ da w (a++(M++(p++R))):=
 h.perm (List.Perm.append_left a (by
  rw [← List.append_assoc,← List.append_assoc];exact List.Perm.append_right R List.perm_append_comm))
theorem _root_.Go.hc.Sep.bD {k:Nat}{v c:Value}{sz e:Nat}{xs f:List Value}{S bd:Nat→Prop}{A:World→Prop}(a:Sep S bd da w rs A) (oa:vc rs k (.row v T sz n xs)) (l:c.ownBlock=v.ownBlock) (m:∀ w T,Row w v T sz n xs→Row w c T sz e f) (g:zc rs k (.row c T sz e f) rs'):Sep S bd da w rs' A:=by
 have h:Row w v T sz n xs:=a.get oa;cases o:v.ownBlock with
 | some b=>exact a.put (b:=b) (r:=.row v T sz n xs) (r':=.row c T sz e f) oa o (l.trans o) g (m _ _ h) (ni.refl _)
 | none =>
  unfold zc at g;subst g;have j:=wA (r':=.row c T sz e f) oa (show c.ownBlock=v.ownBlock from l);refine ⟨a.keeps,fun r p=>?_,by rw [j];exact a.ti,by rw [j];exact a.new,by rw [j];exact a.aj⟩;obtain ⟨i,d⟩:=List.mem_iff_getElem?.1 p;rw [List.getElem?_set] at d;split at d
  ·split at d
   ·cases d;exact m _ _ h
   ·cases d
  ·exact a.all r (List.mem_of_getElem? d)
end
end Go.Mc
namespace Go.Mc
open Go.hc Go.RowKit
theorem Zc {P : Program} {f : FuncId} {fn : Func} (a : P.funcs[f]? = some fn) (b : fn.body.isSome = true := by rfl) (c : (fn.name == "runtime.NumGoroutine") = false := by kernel_rfl) : jc P f := YG a b c
theorem Pe {P : Program}{T : TypeId}{d : TypeDesc}{od : Bool}{z : Value}{Bd : List Value}{n m : Nat}(hu : P.underlying T = some d) (a : Tw d = od := by rfl) (h : (P.info? T).map (fun i => (i.zero, i.size, i.bytes)) = some (some z, n, m):= by kernel_rfl) (b : z.cells = ⟨Bd⟩ := by rfl) : Oc P T od Bd n m := QJ hu a h b
end Go.Mc
namespace Go.Mc
open Go.hc Go.RowKit
theorem oz {v:Value}{l:List Value}(h:xg v=true) (k:l.all xg=true):(v::l).all xg=true:=by simp [h,k]
theorem EK:([]:List Value).all xg=true:=rfl
section
variable {P:Program}{Q:Exit→Act→World→Prop}{K:List Value→List Deferred→World→Prop}{fr Fa:List Value}{ds:List Deferred}{w:World}
variable {dst:Option Tmp}{ty:TypeId}{pos:String}{after:Array Edge}{g:Option (Nat×Bool)}
variable {da:World}{rs rs':List Qa}{μ J:M}
variable {T:TypeId}{d:TypeDesc}{od:Bool}{Bd:List Value}{n m:Nat}
class fL (α β:Type) [mb α] [mb β] where
 code:α→List β
 set:α→List β→α
 La:M→List Value→α→Prop
 up:∀ {μ J:M}{l:List Value}{x:α},ha μ J→La μ l x→La J l x
 Gi:∀ {μ:M}{l:List Value}{x:α},La μ l x→l.length+1=mb.sz α
 wr:∀ {μ:M}{l:List Value}{x:α}{ys:List β}{a:Option Addr}{c:Nat},La μ l x→Na μ a c ys→mb.cs μ (l++[.slice a ys.length c]) (set x ys)
 st:∀ {μ:M}{l:List Value}{x:α}{ys:List β},La μ l x→La μ l (set x ys)
 cd:∀ {x:α},set x (code x)=x
 cs:∀ {x:α}{ys:List β},code (set x ys)=ys
variable {α β:Type}[mb α] [mb β] [fL α β]
end
end Go.Mc
namespace Go.hc
open Go.RowKit
section
variable {P:Program}{Q:Exit→Act→World→Prop}{ops:Array Oper}{fr Fa:List Value}{ds:List Deferred}{w:World}
end
end Go.hc
namespace Go.hc
open Go.RowKit
section
variable {P:Program}{Q:Exit→Act→World→Prop}{ops:Array Oper}{fr Fa:List Value}{ds:List Deferred}{w:World}
abbrev Mon:=List Nat×(World→Prop)
def Vh (i:Nat) (Bb:List Mon):List Mon:=Bb.filter fun m=>!m.1.contains i
def xa:List Mon→World→Prop
 | [],_=>True
 | m::l,w=>m.2 w∧xa l w
theorem xa.mem {Bb:List Mon}{w:World}:xa Bb w ↔ ∀ m ∈ Bb,m.2 w:=by
 induction Bb with
 | nil=>simp [xa]
 | cons m l a=>simp [xa,a]
theorem xa.sub {Bb Ns':List Mon}(h:xa Bb w) (a:∀ m ∈ Ns',m ∈ Bb):xa Ns' w:=xa.mem.2 fun m hm=>xa.mem.1 h m (a m hm)
theorem pw {i:Nat}{Bb:List Mon}:∀ m ∈ Vh i Bb,m ∈ Bb:=fun m hm=>(List.mem_filter.1 hm).1
theorem dw {i:Nat}{Bb Ns':List Mon}(h:∀ m ∈ Ns',m ∈ Bb):∀ m ∈ Vh i Ns',m ∈ Vh i Bb:=fun m hm=>List.mem_filter.2 ⟨h m (List.mem_filter.1 hm).1,(List.mem_filter.1 hm).2⟩
def Yg (P:Program) (ops:Array Oper) (Q:Exit→Act→World→Prop):List Mon→List Nat→Act→World→Prop
 | _,[],a,w=>Q .normal a w
 | Bb,i::rest,a,w =>
  match ops[i]? with
  | none=>Yg P ops Q (Vh i Bb) rest a w
  | some o =>
   if Region.wanted o (yielded ops a.tmps) then o.wp P a w (fun a w=>xa (Vh i Bb) w∧Yg P ops Q (Vh i Bb) rest a w) Q∨(o.asks P a w∧LetsOut Q)
   else Yg P ops Q (Vh i Bb) rest (a.put o.dst undef) w
theorem wy {o:Oper}{a:Act}{K c:Act→World→Prop}(h:o.wp P a w K Q) (b:∀ a w,K a w→c a w):o.wp P a w c Q:=by
 unfold Oper.wp at h ⊢;cases d:(execOp a.eval o).run P w with
 | halt e w'=>rw [d] at h; cases e <;> exact h
 | ok r w' =>
  rw [d] at h;cases r with
  | value x=>exact b _ _ h
  | skip=>exact b _ _ h
  | defer i=>exact b _ _ h
  | enter f args =>
   rw [Oper.upon_enter] at h ⊢;refine Calls.mono h fun e g he=>?_;cases e with
   | returned x=>exact b _ _ he
   | panicked j=>exact he
   | outgrown=>exact he
  | row r args =>
   rw [Oper.upon_row] at h ⊢;exact Rows.mono h fun x g he=>b _ _ he
  | _=>exact h
theorem Yg.mono:∀ (b:List Nat){Bb Ns':List Mon}{a:Act}{w:World},Yg P ops Q Bb b a w→(∀ m ∈ Ns',m ∈ Bb)→Yg P ops Q Ns' b a w
 | [],_,_,_,_,h,_=>h
 | i::b,Bb,Ns',a,w,h,c=>by
  simp only [Yg] at h ⊢;cases d:ops[i]? with
  | none=>rw [d] at h; exact Yg.mono b h (dw c)
  | some o =>
   rw [d] at h;simp only at h ⊢;split
   ·rename_i hw;rw [if_pos hw] at h;rcases h with h | h
    ·exact .inl (wy h fun a w ⟨e,f⟩=>⟨e.sub (dw c),Yg.mono b f (dw c)⟩)
    ·exact .inr h
   ·rename_i hw;rw [if_neg hw] at h;exact Yg.mono b h (dw c)
theorem Yg.plain:∀ (b:List Nat){Bb:List Mon}{a:Act}{w:World},Yg P ops Q Bb b a w→wpOps P ops Q b a w
 | [],_,_,_,h=>h
 | i::b,Bb,a,w,h=>by
  simp only [Yg] at h;simp only [wpOps];cases c:ops[i]? with
  | none=>rw [c] at h; exact Yg.plain b h
  | some o =>
   rw [c] at h;simp only at h ⊢;split
   ·rename_i hw;rw [if_pos hw] at h;rcases h with h | h
    ·exact .inl (wy h fun a w ⟨_,d⟩=>Yg.plain b d)
    ·exact .inr h
   ·rename_i hw;rw [if_neg hw] at h;exact Yg.plain b h
theorem pz {N:World→Prop}{S:List Nat}{i d:Nat}(q:ck Q d){o:Oper}{v:Value}(z:ops[i]?=some o) (La:o.dst=some d){wt:Bool}(A:wt=false→v=undef) :
  ∀ (a b:List Nat) (fr:List Value) (ds:List Deferred) (w:World) (Bb:List Mon),
   (∀ j ∈ a,j ∉ S∧match ops[j]? with
    | some p=>Tr p.op=true∧(reads ops p).contains d=false∧p.dst≠some d∧(∀ e,p.dst=some e→(reads ops o).contains e=false)
    | none=>True) →
   N w→xa Bb w→Tr o.op=true→Region.wanted o (yielded ops (F fr ds).tmps)=wt →
   (wt=true→∀ ds w,N w→(execOp (F fr ds).eval o).run P w=.ok (.value v) w) →
   Yg P ops Q ((S,N)::Bb) (a++b) (F (fr.set d v) ds) w→Yg P ops Q Bb (a++i::b) (F fr ds) w
 | [],b,fr,ds,w,Bb,_,hw,s,t,c,u,h=>by
  simp only [List.nil_append] at h ⊢;have h:=Yg.mono b h (Ns':=Vh i Bb) fun m hm=>List.mem_cons_of_mem _ (pw m hm);simp only [Yg,z];cases wt with
  | true =>
   rw [if_pos c];left;unfold Oper.wp;rw [u rfl ds w hw,Oper.upon_value,La];rw [show (F fr ds).put (some d) v=F (fr.set d v) ds from fa rfl ds];exact ⟨s.sub pw,h⟩
  | false =>
   rw [if_neg (by rw [c];simp),La,← A rfl];rw [show (F fr ds).put (some d) v=F (fr.set d v) ds from fa rfl ds];exact h
 | j::a,b,fr,ds,w,Bb,H,hw,s,t,c,u,h=>by
  obtain ⟨U,B⟩:=H j (by simp);have K:∀ k ∈ a,_:=fun k l=>H k (by simp [l]);have V:Vh j ((S,N)::Bb)=(S,N)::Vh j Bb:=by simp [Vh,U]
  simp only [List.cons_append,Yg,V] at h ⊢;cases L:ops[j]? with
  | none =>
   rw [L] at h;simp only at h ⊢;exact pz q z La A a b fr ds w _ K hw (s.sub pw) t c u h
  | some p =>
   rw [L] at h B;simp only at h B ⊢;obtain ⟨M,C,W,O⟩:=B;rw [PE (fr:=fr) (v:=v) (ds:=ds) (ds':=ds) C] at h;have key:∀ (x:Value) (w':World) (ds':List Deferred),N w'→xa (Vh j Bb) w'→Yg P ops Q ((S,N)::Vh j Bb) (a++b) ((F (fr.set d v) ds').put p.dst x) w'→Yg P ops Q (Vh j Bb) (a++i::b) ((F fr ds').put p.dst x) w':=by
    intro x w' ds' X Y l;obtain ⟨g,g1,g2,g3⟩:=put_eq fr ds' p.dst x;have Z:=wanted_put (ops:=ops) (o:=o) (p:=p) (ds':=ds') (fun y D=>g3 fr y ds' ds' D) O;rw [g1] at l ⊢;rw [g2 _ _ _ W] at l;refine pz q z La A a b (g fr) ds' w' _ K X Y t (Z.trans c) (fun bb n Gb gc=>?_) l;rw [show execOp (F (g fr) n).eval o=execOp (F fr n).eval o from execOp_congr o t fun y D=>g3 fr y n n fun e he lc=>by
     exact gB (O e he) y D lc]
    exact u bb n Gb gc
   by_cases R:Region.wanted p (yielded ops (F fr ds).tmps)=true
   ·rw [if_pos R] at h ⊢;rcases h with h | h
    ·left;unfold Oper.wp at h ⊢;rw [iB (ds':=ds) M C] at h;cases T:(execOp (F fr ds).eval p).run P w with
     | halt e w' =>
      rw [T] at h;cases e<;>first | exact h | exact q _ _ _ _ _ h
     | ok r w' =>
      rw [T] at h;cases r with
      | value x=>exact ⟨h.1.2,key x w' ds h.1.1 h.1.2 h.2⟩
      | skip=>exact ⟨h.1.2,key undef w' ds h.1.1 h.1.2 h.2⟩
      | defer rc=>exact ⟨h.1.2,key undef w' (rc::ds) h.1.1 h.1.2 h.2⟩
      | enter f args =>
       rw [Oper.upon_enter] at h ⊢;refine Calls.mono h fun e E he=>?_;cases e with
       | returned x=>exact ⟨he.1.2,key x E ds he.1.1 he.1.2 he.2⟩
       | panicked fd=>exact q _ _ _ _ _ he
       | outgrown=>exact he
      | row r args =>
       rw [Oper.upon_row] at h ⊢;exact Rows.mono h fun x E he=>⟨he.1.2,key x E ds he.1.1 he.1.2 he.2⟩
      | _=>exact h
    ·right;refine ⟨?_,h.2⟩;have G:=h.1;unfold Oper.asks at G ⊢;rw [iB (ds':=ds) M C] at G;exact G
   ·rw [if_neg R] at h ⊢;exact key undef w ds hw (s.sub pw) h
structure Df (P:Program) (ops:Array Oper) (Q:Exit→Act→World→Prop) (Bb:List Mon) (R:List Nat) (fr:List Value) (ds:List Deferred) (w:World):Prop where
 out:xa Bb w→∀ a,bm ops R a→Yg P ops Q Bb a (F fr ds) w
theorem dd {R:List Nat}(h:Df P ops Q [] R fr ds w):Oz P ops Q R fr ds w:=⟨fun a b=>Yg.plain a (h.out trivial a b)⟩
theorem Uc {Bb:List Mon}(h:Q .normal (F fr ds) w):Df P ops Q Bb [] fr ds w:=⟨fun _ b a=>by
 cases a with
 | z=>exact h
 | s h _=>exact absurd (Vs h) (by simp)⟩
def cm (ops:Array Oper) (S R:List Nat) (i:Nat):Bool :=
 match ops[i]? with
 | some o=>match o.dst with
  | some d=>Tr o.op && R.all fun j=>S.contains j || (match ops[j]? with
    | some p=>Tr p.op && !(reads ops p).contains d && p.dst != some d && (match p.dst with | some e=>!(reads ops o).contains e | none=>true)
    | none=>true)
  | _=>false
 | none=>false
theorem tu {Bb:List Mon}{R R':List Nat}{i:Nat}(S:List Nat) (N:World→Prop){wt:Bool}{dst:Tmp}{op:Op}{ty:TypeId}{pos:String}{after:Array Edge}{l:Option (Nat×Bool)}{v:Value}(C:ck Q dst) (m:(decide R.Nodup && enabled ops R i && waits ops R S i && cm ops S R i && S.contains i)=true) (D:R.erase i=R') (n:ops[i]?=some ⟨some dst,op,ty,pos,after,l⟩)
  (E:Region.wanted ⟨some dst,op,ty,pos,after,l⟩ (yielded ops (F fr ds).tmps)=wt) (G:wt=false→v=undef) (o:N w)
  (H:wt=true→∀ ds w',N w'→(execOp (F fr ds).eval ⟨some dst,op,ty,pos,after,l⟩).run P w'=.ok (.value v) w') (f:zc fr dst v Fa) (h:Df P ops Q ((S,N)::Bb) R' Fa ds w):Df P ops Q Bb R fr ds w:=⟨fun q V r=>by
 simp only [Bool.and_eq_true,decide_eq_true_eq] at m;obtain ⟨⟨⟨⟨s,t⟩,u⟩,g⟩,-⟩:=m;obtain ⟨x,y,rfl,K,z⟩:=r.split s (Vs t) t;have A:=bm.later (S:=S) r s (fun j d=>by
  unfold waits at u;have:=List.all_eq_true.1 u j d;simp only [Bool.or_eq_true,beq_iff_eq,List.any_eq_true,Bool.and_eq_true,List.contains_iff_mem] at this;rcases this with h | ⟨k,k1,L,M⟩
  ·exact .inl h
  ·exact .inr ⟨k,k1,L,M⟩) x y rfl (fun hm=>(z i hm).2.1 rfl)
 unfold cm at g;simp only [n,Bool.and_eq_true,List.all_eq_true,Bool.or_eq_true,List.contains_iff_mem] at g;unfold zc at f;subst f;subst D;refine pz C n rfl G (N:=N) (S:=S) (v:=v) x y fr ds w Bb (fun j d=>⟨A j d,?_⟩) o q g.1 E H (h.out ⟨o,q⟩ _ K);obtain ⟨a,b,c⟩:=z j d;have:=g.2 j a;rcases this with h | h
 ·exact absurd h (A j d)
 ·cases f:ops[j]? with
  | none=>trivial
  | some p =>
   rw [f] at h;simp only [Bool.and_eq_true,Bool.not_eq_true',bne_iff_ne,ne_eq] at h;obtain ⟨⟨⟨O,T⟩,U⟩,B⟩:=h;refine ⟨O,T,U,fun e he=>?_⟩;rw [he] at B;simpa using B⟩
theorem hb {Bb:List Mon}{R R':List Nat}{i:Nat}(S:List Nat){dst:Tmp}{op:Op}{ty:TypeId}{pos:String}{after:Array Edge}{v:Value}(a:ck Q dst) (b:(decide R.Nodup && enabled ops R i && waits ops R S i && cm ops S R i && S.contains i)=true) (c:R.erase i=R') (d:ops[i]?=some ⟨some dst,op,ty,pos,after,none⟩)
  (e:Hn P ⟨some dst,op,ty,pos,after,none⟩ fr w v) (f:zc fr dst v Fa) (h:Df P ops Q ((S,fun w'=>Hn P ⟨some dst,op,ty,pos,after,none⟩ fr w' v)::Bb) R' Fa ds w):Df P ops Q Bb R fr ds w :=
 tu S _ (wt:=true) a b c d (xb rfl) (fun h=>by cases h) e (fun _ ds w' hw=>hw.out ds) f h
theorem Wn {Bb:List Mon}{R R':List Nat}{i j d:Nat}{b:Bool}(S:List Nat){dst:Tmp}{op:Op}{ty:TypeId}{pos:String}{after:Array Edge}{v:Value}(a:ck Q dst) (c:(decide R.Nodup && enabled ops R i && waits ops R S i && cm ops S R i && S.contains i)=true) (e:R.erase i=R') (f:ops[i]?=some ⟨some dst,op,ty,pos,after,some (j,b)⟩) (g:(ops[j]?).bind (·.dst)=some d) (oa:vc fr d (.bool b))
  (k:Hn P ⟨some dst,op,ty,pos,after,some (j,b)⟩ fr w v) (l:zc fr dst v Fa) (h:Df P ops Q ((S,fun w'=>Hn P ⟨some dst,op,ty,pos,after,some (j,b)⟩ fr w' v)::Bb) R' Fa ds w):Df P ops Q Bb R fr ds w :=
 tu S _ (wt:=true) a c e f (jt rfl g oa) (fun h=>by cases h) k (fun _ ds w' hw=>hw.out ds) l h
theorem Yg.add {m:Mon}(c:∀ w,m.2 w):∀ (b:List Nat){Bb:List Mon}{a:Act}{w:World},Yg P ops Q Bb b a w→Yg P ops Q (m::Bb) b a w
 | [],_,_,_,h=>h
 | i::b,Bb,a,w,h=>by
  have d:Vh i (m::Bb)=m::Vh i Bb∨Vh i (m::Bb)=Vh i Bb:=by
   unfold Vh;rw [List.filter_cons];split
   ·exact .inl rfl
   ·exact .inr rfl
  have key:∀ {a w},Yg P ops Q (Vh i Bb) b a w→Yg P ops Q (Vh i (m::Bb)) b a w:=fun h=>by
   rcases d with e | e<;>rw [e]
   ·exact Yg.add c b h
   ·exact h
  have g:∀ {w},xa (Vh i Bb) w→xa (Vh i (m::Bb)) w:=fun h=>by
   rcases d with e | e<;>rw [e]
   ·exact ⟨c _,h⟩
   ·exact h
  simp only [Yg] at h ⊢;cases f:ops[i]? with
  | none=>rw [f] at h; exact key h
  | some o =>
   rw [f] at h;simp only at h ⊢;split
   ·rename_i hw;rw [if_pos hw] at h;rcases h with h | h
    ·exact .inl (wy h fun a w ⟨j,k⟩=>⟨g j,key k⟩)
    ·exact .inr h
   ·rename_i hw;rw [if_neg hw] at h;exact key h
theorem xy {Bb:List Mon}{m:Mon}{R:List Nat}(b:∀ w,m.2 w) (h:Df P ops Q Bb R fr ds w):Df P ops Q (m::Bb) R fr ds w:=⟨fun c a d=>Yg.add b a (h.out c.2 a d)⟩
theorem Da {Bb:List Mon}{R R':List Nat}{i:Nat}(S:List Nat){dst:Tmp}{op:Op}{ty:TypeId}{pos:String}{after:Array Edge}{v:Value}(a:ck Q dst) (b:(decide R.Nodup && enabled ops R i && waits ops R S i && cm ops S R i && S.contains i)=true) (c:R.erase i=R') (d:ops[i]?=some ⟨some dst,op,ty,pos,after,none⟩)
  (e:Lf P ⟨some dst,op,ty,pos,after,none⟩ fr v) (f:zc fr dst v Fa) (h:Df P ops Q Bb R' Fa ds w):Df P ops Q Bb R fr ds w :=
 tu S (fun _=>True) (wt:=true) a b c d (xb rfl) (fun h=>by cases h) trivial (fun _ ds w' _=>e.out ds w') f (xy (fun _=>trivial) h)
theorem Mr {Bb:List Mon}{R R':List Nat}{i j d:Nat}{b:Bool}(S:List Nat){dst:Tmp}{op:Op}{ty:TypeId}{pos:String}{after:Array Edge}{v:Value}(a:ck Q dst) (c:(decide R.Nodup && enabled ops R i && waits ops R S i && cm ops S R i && S.contains i)=true) (e:R.erase i=R') (f:ops[i]?=some ⟨some dst,op,ty,pos,after,some (j,b)⟩) (g:(ops[j]?).bind (·.dst)=some d) (oa:vc fr d (.bool b))
  (k:Lf P ⟨some dst,op,ty,pos,after,some (j,b)⟩ fr v) (l:zc fr dst v Fa) (h:Df P ops Q Bb R' Fa ds w):Df P ops Q Bb R fr ds w :=
 tu S (fun _=>True) (wt:=true) a c e f (jt rfl g oa) (fun h=>by cases h) trivial (fun _ ds w' _=>k.out ds w') l (xy (fun _=>trivial) h)
theorem Nr {Bb:List Mon}{R R':List Nat}{i j d:Nat}{b ed:Bool}(S:List Nat){dst:Tmp}{op:Op}{ty:TypeId}{pos:String}{after:Array Edge}(a:ck Q dst) (c:(decide R.Nodup && enabled ops R i && waits ops R S i && cm ops S R i && S.contains i)=true) (e:R.erase i=R') (f:ops[i]?=some ⟨some dst,op,ty,pos,after,some (j,b)⟩) (g:(ops[j]?).bind (·.dst)=some d) (oa:vc fr d (.bool ed)) (k:(ed == b)=false)
  (l:zc fr dst undef Fa) (h:Df P ops Q Bb R' Fa ds w):Df P ops Q Bb R fr ds w :=
 tu S (fun _=>True) (wt:=false) a c e f ((nB rfl g oa).trans k) (fun _=>rfl) trivial (fun h=>by cases h) l (xy (fun _=>trivial) h)
structure jx (P:Program) (ops:Array Oper) (Q:Exit→Act→World→Prop) (Bb:List Mon) (R:List Nat) (fr:List Value) (ds:List Deferred) (w:World):Prop where
 m:xa Bb w
 s:Df P ops Q Bb R fr ds w
theorem xa.s {m:Mon}{l:List Mon}(h:m.2 w) (k:xa l w):xa (m::l) w:=⟨h,k⟩
theorem xa.z:xa [] w:=trivial
theorem sC {Bb:List Mon}{R:List Nat}(c:R≠[]) (h:∀ i ∈ Sy ops R,∃ o,ops[i]?=some o∧Region.wanted o (yielded ops (F fr ds).tmps)=true∧Md P o fr ds w (jx P ops Q (Vh i Bb) (R.erase i)) Q):Df P ops Q Bb R fr ds w:=⟨fun k d e=>by
 cases e with
 | z=>exact absurd rfl c
 | @s _ d i b f =>
  obtain ⟨o,g,hw,j⟩:=h i (List.mem_filter.2 ⟨Vs b,b⟩);simp only [Yg,g];rw [if_pos hw];exact .inl (j.out _ fun Fa ds' w' a=>⟨a.m,a.s.out a.m _ f⟩)⟩
theorem zb {Bb Ns':List Mon}{R:List Nat}{i:Nat}{R':List Nat}{o:Oper}(b:Sy ops R=[i]) (c:R.erase i=R') (La:Vh i Bb=Ns') (d:ops[i]?=some o) (hw:Region.wanted o (yielded ops (F fr ds).tmps)=true)
  (h:Md P o fr ds w (jx P ops Q Ns' R') Q):Df P ops Q Bb R fr ds w :=
 sC (by intro e;subst e;cases b) fun k a=>by
  rw [b] at a;simp at a;subst a;exact ⟨_,d,hw,by rw [c,La];exact h⟩
theorem Fz {Bb d f:List Mon}{R:List Nat}{i j:Nat}{g h:List Nat}{a b:Oper}(l:Sy ops R=[i,j]) (m:R.erase i=g) (n:R.erase j=h) (o:Vh i Bb=d) (p:Vh j Bb=f) (q:ops[i]?=some a) (r:ops[j]?=some b) (s:Region.wanted a (yielded ops (F fr ds).tmps)=true) (t:Region.wanted b (yielded ops (F fr ds).tmps)=true)
  (u:Md P a fr ds w (jx P ops Q d g) Q) (v:Md P b fr ds w (jx P ops Q f h) Q):Df P ops Q Bb R fr ds w :=
 sC (by intro e;subst e;cases l) fun k c=>by
  rw [l] at c;simp at c;rcases c with rfl | rfl
  ·exact ⟨_,q,s,by rw [m,o];exact u⟩
  ·exact ⟨_,r,t,by rw [n,p];exact v⟩
theorem DD {Bb:List Mon}{R:List Nat}{Ph Qh:List Value}{d:Nat}{b:Bool}(oa:vc fr d (.bool b)) (a:zc fr d (.bool true) Ph) (c:zc fr d (.bool false) Qh)
  (e:b=true→Df P ops Q Bb R Ph ds w) (f:¬ b=true→Df P ops Q Bb R Qh ds w):Df P ops Q Bb R fr ds w:=by
 cases b with
 | true=>have:=e rfl; rw [zc.same oa a] at this; exact this
 | false=>have:=f (by simp); rw [zc.same oa c] at this; exact this
theorem FK {Bb:List Mon}{R:List Nat}{Ph Qh:List Value}{d:Nat}{p:Prop}[Decidable p] (oa:vc fr d (.bool (decide p))) (a:zc fr d (.bool true) Ph) (b:zc fr d (.bool false) Qh)
  (c:p→Df P ops Q Bb R Ph ds w) (e:¬ p→Df P ops Q Bb R Qh ds w):Df P ops Q Bb R fr ds w :=
 DD oa a b (fun h=>c (of_decide_eq_true h)) (fun h=>e fun f=>h (decide_eq_true f))
end
end Go.hc
namespace Go.Mc
open Go.hc Go.RowKit
section
variable {P:Program}{Q:Exit→Act→World→Prop}{K:List Value→List Deferred→World→Prop}{fr Fa:List Value}{ds:List Deferred}{w:World}
variable {dst:Option Tmp}{ty:TypeId}{pos:String}{after:Array Edge}{g:Option (Nat×Bool)}
variable {da:World}{rs rs':List Qa}{μ J:M}
variable {T:TypeId}{d:TypeDesc}{od:Bool}{Bd:List Value}{n m:Nat}
theorem SD {t ty:TypeId}{sz bytes:Nat}(b:P.underlying t=some (.slice T)) (e:Oc P T od Bd sz bytes){v:Value}{xs:List Value}(f:Row w v T sz n xs){a:Option Addr}{c:Nat} :
  (Builtin.append_ #[t,t] ty #[v,.slice a 0 c]).run P w=.ok v w:=by
 have d:=e.sizeOf (w:=w);rcases f.2 with ⟨rfl,rfl⟩ | ⟨g,o,cap,cur,rfl,i,h,j,k,l⟩
 ·cases a<;>simp [Builtin.append_,run_underlying b,d,Builtin.lenOf,Builtin.firstCells,loadCells,loadCellsFrom]
 ·cases a<;>simp [Builtin.append_,run_underlying b,d,Builtin.lenOf,Builtin.firstCells,h,storeCells,loadCells,loadCellsFrom]
theorem yy {α:Type}[mb α]{t:TypeId}{s x:Operand}{v:Value}{bytes k c:Nat}{a:Option Addr}{cells news:List Value}{l ys j:List α}(m:P.underlying t=some (.slice T)) (n:Oc P T od Bd (mb.sz α) bytes) (y:Bd.length=mb.sz α)
  (p:qb fr s v) (q:qb fr x (.slice a ys.length c)) (f:ja μ da w rs) (oa:vc rs k (.row v T (mb.sz α) l.length cells)) (z:ys≠[]→∃ b o,a=some ⟨b,o,none⟩∧Ba μ b o news) (d:Ua μ news ys) (A:app l ys=some j) (B:bytes≤4096)
  (h:∀ i w' rs',zc rs k (.row i T (mb.sz α) j.length (cells++news)) rs'→ja μ da w' rs'→Bh fr dst i fun Fa=>K Fa ds w') :
  Md P (Oper.mk dst (.call { callee:=.builtin .append,args:=#[s,x],argTypes:=#[t,t] }) ty pos after g) fr ds w K Q:=by
 obtain ⟨r,C⟩:=fy A;by_cases u:ys=[]
 ·subst u;obtain rfl:news=[]:=d;have D:Row w v T (mb.sz α) l.length cells:=f.get oa;obtain ⟨Fa,La⟩:=Wi fr dst v;have E:=h v w rs (by
   have:j.length=l.length:=by simpa using r
   rw [this,List.append_nil];unfold zc;obtain ⟨F,e⟩:=List.getElem?_eq_some_iff.1 (show rs[k]?=_ from oa);rw [← e];exact List.set_getElem_self F) f
  refine Oh (v:=v) (w':=w) ?_ La (E Fa La);have ia:=p ds;have G:=q ds;have d:=SD (P:=P) (ty:=ty) (a:=a) (c:=c) m n D;simp [execOp,resolve,invoke,builtin,ia,G,d]
 ·obtain ⟨b,o,rfl,H⟩:=z u;exact bw m n (by simp [y,mb.pos]) p q f oa (H _ f.a) d.len d.Fh ⟨C,B⟩ fun i w' rs' L=>h i w' rs' (by rw [r];exact L)
end
end Go.Mc
