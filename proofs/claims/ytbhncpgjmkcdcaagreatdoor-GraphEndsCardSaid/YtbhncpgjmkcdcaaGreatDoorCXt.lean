/- Texts of Xt. -/
import Derived.Test.YtbhncpgjmkcdcaaGreatDoorCWk
import Derived.LoopN
import Derived.KernelRfl
set_option linter.unusedSimpArgs false
set_option linter.unusedVariables false
set_option linter.unusedSectionVars false
namespace Go.jc
open Go.Ab Go.RowKit
abbrev M:=World→Prop
def da (μ I:M):Prop:=∀ w,I w→μ w
theorem da.r {μ:M}:da μ μ:=fun _ h=>h
theorem da.t {a b c:M}(h:da a b) (k:da b c):da a c:=fun w x=>h w (k w x)
abbrev ia (μ:M) (w0 w:World) (rs:List mb):Prop:=Sep (fun _=>False) (fun _=>True) w0 w rs μ
def Hc (μ:M) (b o:Nat) (cs:List Value):Prop:=∀ w,μ w→gj w b o cs
theorem Hc.up {μ I:M}{b o:Nat}{cs:List Value}(h:Hc μ b o cs) (l:da μ I):Hc I b o cs:=fun w k=>h w (l w k)
class Ja (α:Type) where
 sz:Nat
 pos:0<sz
 cs:M→List Value→α→Prop
 Hg:∀ {μ:M}{l:List Value}{x:α},cs μ l x→l.length=sz
 up:∀ {μ I:M}{l:List Value}{x:α},da μ I→cs μ l x→cs I l x
 wg:∀ {μ:M}{l:List Value}{x:α},cs μ l x→l.all we=true
structure pd {α:Type}(sz:Nat) (R:List Value→α→Prop) (μ:M) (a:Option Addr) (c:Nat) (xs:List α):Prop where
 le:xs.length≤c
 cap:c≤maxLen
 el:xs=[]∨∃ b o,a=some ⟨b,o,none⟩∧∃ g:Nat→List Value,∀ i x,xs[i]?=some x→Hc μ b (o+i*sz) (g i)∧R (g i) x
abbrev Da {α:Type}[Ja α] (μ:M) (a:Option Addr) (c:Nat) (xs:List α):Prop:=pd (Ja.sz α) (Ja.cs μ) μ a c xs
theorem pd.imp {α:Type}{sz:Nat}{R R':List Value→α→Prop}{μ I:M}{a:Option Addr}{c:Nat}{xs:List α}(h:pd sz R μ a c xs) (l:da μ I) (f:∀ (i:Nat) (cs:List Value) (x:α),xs[i]?=some x→R cs x→R' cs x):pd sz R' I a c xs where
 le:=h.le
 cap:=h.cap
 el:=by
  rcases h.el with h | ⟨b,o,j,g,e⟩
  ·exact .inl h
  ·exact .inr ⟨b,o,j,g,fun i x d=>⟨(e i x d).1.up l,f i _ x d (e i x d).2⟩⟩
theorem Da.up {α:Type}[Ja α]{μ I:M}{a:Option Addr}{c:Nat}{xs:List α}(h:Da μ a c xs) (l:da μ I):Da I a c xs:=pd.imp h l fun _ _ _ _=>Ja.up l
theorem Da.nil {α:Type}[Ja α]{μ:M}{a:Option Addr}:Da (α:=α) μ a 0 []:=⟨by simp,by simp,.inl rfl⟩
theorem Da.len {α:Type}{sz:Nat}{R:List Value→α→Prop}{μ:M}{a:Option Addr}{c:Nat}{xs:List α}(h:pd sz R μ a c xs):xs.length≤9223372036854775807:=Nat.le_trans h.le h.cap
instance:Ja Int where
 sz:=1
 pos:=by decide
 cs _ l x:=l=[.int .i64 x]
 Hg h:=by rw [h];rfl
 up _ h:=h
 wg h:=by rw [h];rfl
instance:Ja Bool where
 sz:=1
 pos:=by decide
 cs _ l x:=l=[.bool x]
 Hg h:=by rw [h];rfl
 up _ h:=h
 wg h:=by rw [h];rfl
instance {α:Type}[Ja α]:Ja (List α) where
 sz:=1
 pos:=by decide
 cs μ l xs:=∃ a c,l=[.slice a xs.length c]∧Da μ a c xs
 Hg h:=by obtain ⟨a,c,rfl,-⟩:=h;rfl
 up l h:=by obtain ⟨a,c,b,d⟩:=h;exact ⟨a,c,b,d.up l⟩
 wg h:=by obtain ⟨a,c,rfl,-⟩:=h;rfl
instance:Ja (List UInt8) where
 sz:=1
 pos:=by decide
 cs _ l x:=l=[S x]
 Hg h:=by rw [h];rfl
 up _ h:=h
 wg h:=by rw [h];rfl
def i64 (n:Int):Option Int:=if -9223372036854775808≤n∧n≤9223372036854775807 then some n else none
def Un (n:Int):Int:=IntKind.i64.wrap n
def at_ {α:Type}(l:List α) (i:Int):Option α:=if 0≤i then l[i.toNat]? else none
def cut {α:Type}(l:List α) (i j:Int):Option (List α):=if 0≤i∧i≤j∧j≤l.length then some ((l.take j.toNat).drop i.toNat) else none
def cat (a b:List UInt8):Option (List UInt8):=if a.length+b.length≤9223372036854775807 then some (a++b) else none
def app {α:Type}(l:List α) (xs:List α):Option (List α):=if l.length+xs.length≤4294967296 then some (l++xs) else none
def quo (a b:Int):Option Int:=if b=0 then none else some (Un (a.tdiv b))
theorem fa {α β:Type}{o:Option α}{f:α→Option β}{r:β}(h:Option.bind o f=some r):∃ x,o=some x∧f x=some r:=Option.bind_eq_some_iff.1 h
theorem kg {α:Type}{c:Prop}[Decidable c]{x y:α}{r:α}(hc:c) (h:(if c then x else y)=r):x=r:=by rwa [if_pos hc] at h
theorem Bc {α:Type}{c:Prop}[Decidable c]{x y:α}{r:α}(hc:¬ c) (h:(if c then x else y)=r):y=r:=by rwa [if_neg hc] at h
theorem OJ {n x:Int}(h:i64 n=some x):x=n∧-9223372036854775808≤n∧n≤9223372036854775807:=by
 unfold i64 at h;split at h
 ·rename_i hc;exact ⟨(Option.some.inj h).symm,hc⟩
 ·cases h
theorem hz {n x:Int}(h:i64 n=some x):IntKind.i64.wrap n=x:=by
 obtain ⟨rfl,a,b⟩:=OJ h;exact wr (by omega)
theorem Bx {α:Type}{l:List α}{i:Int}{x:α}(h:at_ l i=some x):0≤i∧i<l.length∧l[i.toNat]?=some x:=by
 unfold at_ at h;split at h
 ·rename_i hc;refine ⟨hc,?_,h⟩;have:=(List.getElem?_eq_some_iff.1 h).1;omega
 ·cases h
theorem Qr {α:Type}{l ys:List α}{i j:Int}(h:cut l i j=some ys):(0≤i∧i≤j∧j≤l.length)∧ys=(l.take j.toNat).drop i.toNat:=by
 unfold cut at h;split at h
 ·rename_i hc;exact ⟨hc,(Option.some.inj h).symm⟩
 ·cases h
theorem PJ {a b c:List UInt8}(h:cat a b=some c):c=a++b∧a.length+b.length≤9223372036854775807:=by
 unfold cat at h;split at h
 ·rename_i hc;exact ⟨(Option.some.inj h).symm,hc⟩
 ·cases h
theorem Nz {α:Type}{a b c:List α}(h:app a b=some c):c=a++b∧a.length+b.length≤4294967296:=by
 unfold app at h;split at h
 ·rename_i hc;exact ⟨(Option.some.inj h).symm,hc⟩
 ·cases h
structure oj (v:Value) (sz:Nat) (i:Int) (b o:Nat):Prop where
 out:∃ a n c,v=.slice (some ⟨b,a,none⟩) n c∧0≤i∧i<n∧a+i.toNat*sz=o
theorem pd.elem {α:Type}{sz:Nat}{R:List Value→α→Prop}{μ:M}{a:Option Addr}{c:Nat}{xs:List α}{i:Int}{x:α}(h:pd sz R μ a c xs) (g:at_ xs i=some x) :
  ∃ b o cs,oj (.slice a xs.length c) sz i b o∧Hc μ b o cs∧R cs x:=by
 obtain ⟨j,k,d⟩:=Bx g;rcases h.el with rfl | ⟨b,o,rfl,f,e⟩
 ·simp at d
 ·exact ⟨b,_,f i.toNat,⟨o,_,_,rfl,j,k,rfl⟩,(e _ _ d).1,(e _ _ d).2⟩
def na {α:Type}[Ja α] (μ:M):List Value→List α→Prop
 | cells,[]=>cells=[]
 | cells,x::l=>∃ cs t,cells=cs++t∧Ja.cs μ cs x∧na μ t l
theorem na.len {α:Type}[Ja α]{μ:M}:∀ {l:List α}{cells:List Value},na μ cells l→cells.length=l.length*Ja.sz α
 | [],cells,h=>by rw [na] at h; simp [h]
 | x::l,cells,h=>by
  rw [na] at h;obtain ⟨cs,t,rfl,a,b⟩:=h;simp [na.len b,Ja.Hg a,Nat.add_mul,Nat.add_comm]
theorem na.up {α:Type}[Ja α]{μ I:M}(a:da μ I):∀ {l:List α}{cells:List Value},na μ cells l→na I cells l
 | [],cells,h=>by rw [na] at h ⊢; exact h
 | x::l,cells,h=>by
  rw [na] at h ⊢;obtain ⟨cs,t,b,c,d⟩:=h;exact ⟨cs,t,b,Ja.up a c,na.up a d⟩
theorem na.cat {α:Type}[Ja α]{μ:M}{b:List α}{a:List Value}(k:na μ a b):∀ {l:List α}{cells:List Value},na μ cells l→na μ (cells++a) (l++b)
 | [],cells,h=>by rw [na] at h; subst h; exact k
 | x::l,cells,h=>by
  rw [na] at h;obtain ⟨cs,t,rfl,c,d⟩:=h;rw [List.cons_append,na];exact ⟨cs,t++a,by simp,c,na.cat k d⟩
theorem na.nil {α:Type}[Ja α]{μ:M}:na μ [] ([]:List α):=rfl
theorem na.one {α:Type}[Ja α]{μ:M}{cs:List Value}{x:α}(h:Ja.cs μ cs x):na μ cs [x]:=⟨cs,[],by simp,h,rfl⟩
theorem na.cons {α:Type}[Ja α]{μ:M}{cs t:List Value}{x:α}{l:List α}(h:Ja.cs μ cs x) (k:na μ t l):na μ (cs++t) (x::l):=⟨cs,t,rfl,h,k⟩
theorem na.wg {α:Type}[Ja α]{μ:M}:∀ {l:List α}{cells:List Value},na μ cells l→cells.all we=true
 | [],cells,h=>by rw [na] at h; simp [h]
 | x::l,cells,h=>by
  rw [na] at h;obtain ⟨cs,t,rfl,a,b⟩:=h;rw [List.all_append,Ja.wg a,na.wg b];rfl
theorem na.get {α:Type}[Ja α]{μ:M}:∀ {l:List α}{cells:List Value}{i:Nat}{x:α},na μ cells l→l[i]?=some x→Ja.cs μ ((cells.drop (i*Ja.sz α)).take (Ja.sz α)) x
 | [],cells,i,x,h,a=>by simp at a
 | y::l,cells,i,x,h,a=>by
  rw [na] at h;obtain ⟨cs,t,rfl,b,c⟩:=h;cases i with
  | zero=>simp at a; subst a; simp [← Ja.Hg b]; exact b
  | succ i =>
   simp at a;have:=na.get c a;have e:(i+1)*Ja.sz α=cs.length+i*Ja.sz α:=by rw [Nat.add_mul,Ja.Hg b];omega
   rw [e,← List.drop_drop];simpa using this
theorem Da.cells {α:Type}[Ja α]{μ:M}{a:Option Addr}{c:Nat}:∀ {xs:List α},Da μ a c xs→∃ cells,na μ cells xs∧(xs≠[]→∃ b o,a=some ⟨b,o,none⟩∧Hc μ b o cells):=by
 intro xs h;rcases h.el with rfl | ⟨b,o,rfl,g,p⟩
 ·exact ⟨[],rfl,fun h=>absurd rfl h⟩
 ·have key:∀ (l:List α) (k:Nat),xs.drop k=l→∃ cells,na μ cells l∧Hc μ b (o+k*Ja.sz α) cells:=by
   intro l
   induction l with
   | nil=>intro k _; exact ⟨[],rfl,fun w _ j v d=>by simp at d⟩
   | cons x l q =>
    intro k m;have r:xs[k]?=some x:=by
     have:=congrArg (fun l=>l[0]?) m;simpa using this
    obtain ⟨cells,f,i⟩:=q (k+1) (by rw [← List.tail_drop,m];rfl);obtain ⟨s,n⟩:=p k x r;refine ⟨g k++cells,na.cons n f,fun w hw j v d=>?_⟩;rcases Nat.lt_or_ge j (g k).length with e | e
    ·rw [List.getElem?_append_left e] at d;exact s w hw j v d
    ·rw [List.getElem?_append_right e] at d;have:=i w hw _ v d;rw [Ja.Hg n] at this e;rw [show o+(k+1)*Ja.sz α+(j - Ja.sz α)=o+k*Ja.sz α+j by rw [Nat.add_mul];omega] at this;exact this
  obtain ⟨cells,f,i⟩:=key xs 0 rfl;exact ⟨cells,f,fun _=>⟨b,o,rfl,by simpa using i⟩⟩
section
variable {P:Program}{Q:Exit→Act→World→Prop}{K:List Value→List Deferred→World→Prop}{fr ua:List Value}{ds:List Deferred}{w:World}
variable {dst:Option Tmp}{ty:TypeId}{pos:String}{after:Array Edge}{g:Option (Nat×Bool)}
variable {w0:World}{rs rs':List mb}{μ:M}
variable {T:TypeId}{d:TypeDesc}{Hf:Bool}{xd:List Value}{n m:Nat}
theorem Rc {c:Code}(f:List Nat) (i:f.Nodup) (d:List qb→World→Prop) (j:∀ m w,d m w→opens m=f)
  (h:te P c (Exit.then (fun n w'=>∃ m ua,n=F ua ds∧Be m fr ua∧d m w') Q) fr ds w)
  (k:∀ m t w,d m w→Q .normal (F (ni t m fr) ds) w):te P c Q fr ds w:=⟨
 wp_mono h.out fun e a w' b=>by
  cases e with
  | normal =>
   obtain ⟨m,ua,rfl,o,g⟩:=b;obtain ⟨Ob,p⟩:=o.ex (by rw [j m w' g];exact i);have:=k m Ob w' g;rw [← p] at this;exact this
  | exit id=>exact b
  | goto l=>exact b
  | ret=>exact b
  | panic q=>exact b
  | outgrown=>exact b⟩
theorem He {c:Code}(f:List Nat) (j:f.Nodup) (b:Nat→List qb→World→Prop) (g:∀ n m w,b n m w→opens m=f) (de:Nat) (m0:List qb) (k:Be m0 fr fr) (h:b de m0 w)
  (round:∀ n m t w,b n m w→te P c (Exit.then (fun l w'=>∃ d e ua,l=F ua ds∧Be e fr ua∧b d e w'∧d<n) Q) (ni t m fr) ds w):te P (.loop c) Q fr ds w:=by
 refine vL (α:={ p:Nat×List qb // opens p.2=f }) f j (fun p=>p.1.2) (fun p=>p.2) (fun p w=>b p.1.1 p.1.2 w) (fun p _=>p.1.1) ⟨(de,m0),g de m0 w h⟩ k h fun p t w o=>?_;refine (round p.1.1 p.1.2 t w o).mono (cG fun a w' ⟨d,e,ua,q,r,i,s⟩=>⟨⟨(d,e),g d e w' i⟩,ua,q,r,i,s⟩)
theorem Zh {c:Operand}{x y:Code}{b:Bool}(hc:cb fr c (.bool b)) (a:b=true→te P x Q fr ds w) (d:¬ b=true→te P y Q fr ds w):te P (.cond c x y) Q fr ds w :=
 PA hc a fun h=>d (by rw [h];simp)
theorem To {c:Operand}{x y:Code}{b:Bool}(hc:cb fr c (.bool (!b))) (a:¬ b=true→te P x Q fr ds w) (d:b=true→te P y Q fr ds w):te P (.cond c x y) Q fr ds w :=
 PA hc (fun h=>a (by simpa using h)) fun h=>d (by simpa using h)
theorem yM {ops:Array Oper}{l:List Oper}{di ei:List Value}{d:Nat}{b:Bool}(a:Vb fr d (.bool b)) (c:uc fr d (.bool true) di) (e:uc fr d (.bool false) ei)
  (f:b=true→Gf P ops Q l di ds w) (g:¬ b=true→Gf P ops Q l ei ds w):Gf P ops Q l fr ds w:=QA a c e f fun h=>g (by rw [h];simp)
theorem FL {ops:Array Oper}{l:List Oper}{di ei:List Value}{d:Nat}{b:Bool}(a:Vb fr d (.bool (!b))) (c:uc fr d (.bool true) di) (e:uc fr d (.bool false) ei)
  (f:¬ b=true→Gf P ops Q l di ds w) (g:b=true→Gf P ops Q l ei ds w):Gf P ops Q l fr ds w:=QA a c e (fun h=>f (by simpa using h)) fun h=>g (by simpa using h)
inductive zd:List mb→Nat→List mb→Prop where
 | z {rs:List mb}:zd rs 0 rs
 | s {a r:mb} {rs rs':List mb} {k:Nat} (h:zd rs k (r::rs')):zd (a::rs) (k+1) (r::a::rs')
theorem zd.perm {k:Nat}{rs rs':List mb}(h:zd rs k rs'):rs.Perm rs':=by
 induction h with
 | z=>exact .refl _
 | s _ a=>exact (a.cons _).trans (.swap _ _ _)
theorem _root_.Go.Ab.Sep.ca {k:Nat}{S Ed:Nat→Prop}{A:World→Prop}(h:Sep S Ed w0 w rs A) (a:zd rs k rs'):Sep S Ed w0 w rs' A where
 keeps:=h.keeps
 all r c:=h.all r (a.perm.mem_iff.2 c)
 qi:=(a.perm.filterMap _).nodup_iff.1 h.qi
 new b d:=h.new b ((a.perm.filterMap _).mem_iff.2 d)
 Li:=h.Li.mono fun k _ hs=>⟨hs.1,fun hm=>hs.2 ((a.perm.filterMap mb.block).mem_iff.2 hm)⟩
theorem _root_.Go.Ab.Sep.Wx {r:mb}{B:World→Prop}(h:ia μ w0 w (r::rs)) (a:∀ w,r.holds w→B w):ia (fun w=>μ w∧B w) w0 w rs :=
 Sep.freeze h (d0 (α:=mb)) ga.z (fun _ _=>.inl trivial) a
theorem _root_.Go.Ab.Sep.Ri {α:Type}[Ja α]{v:Value}{cells:List Value}{l:List α}(h:ia μ w0 w (.row v T (Ja.sz α) n cells::rs)) (m:na μ cells l) (e:l.length=n) :
  ∃ I a c,v=.slice a l.length c∧da μ I∧Da I a c l∧ia I w0 w rs:=by
 have p:Row w v T (Ja.sz α) n cells:=h.all _ (List.mem_cons_self ..);have f:=Sep.Wx (B:=fun w=>Row w v T (Ja.sz α) n cells) h fun w hw=>hw;have hle:da μ (fun w=>μ w∧Row w v T (Ja.sz α) n cells):=fun w hw=>hw.1;rcases p.2 with ⟨rfl,rfl⟩ | ⟨g,o,cap,cur,rfl,A,q,r,C,D⟩
 ·obtain rfl:=List.eq_nil_of_length_eq_zero e;exact ⟨_,none,0,rfl,hle,Da.nil,f⟩
 ·subst e;refine ⟨_,some ⟨g,o,none⟩,cap,rfl,hle,⟨q,r,.inr ⟨g,o,rfl,fun i=>(cells.drop (i*Ja.sz α)).take (Ja.sz α),fun i x k=>⟨?_,?_⟩⟩⟩,f⟩
  ·intro F s j u d;obtain ⟨-,t⟩:=s;have y:0<l.length:=by have:=(List.getElem?_eq_some_iff.1 k).1;omega
   obtain ⟨b,o',c,Wa,hc⟩:=t.Mn y;simp at Wa;obtain ⟨⟨rfl,rfl⟩,rfl⟩:=Wa;have z:j<Ja.sz α:=by
    have:=(List.getElem?_eq_some_iff.1 d).1;simp at this;omega
   rw [List.getElem?_take_of_lt z,List.getElem?_drop] at d;have:=hc _ u d;rw [← Nat.add_assoc] at this;exact this
  ·exact Ja.up hle (m.get k)
theorem _root_.Go.Ab.Sep.Bj {α:Type}[Ja α]{b:Nat}{cells:List Value}{l:List α}(h:ia μ w0 w (.ba b T cells::rs)) (c:na μ cells l) (hlen:l.length≤maxLen) :
  ∃ I,da μ I∧Da I (some ⟨b,0,none⟩) l.length l∧ia I w0 w rs:=by
 have d:=Sep.Wx (B:=fun w=>oi w b T cells) h fun w hw=>hw;have hle:da μ (fun w=>μ w∧oi w b T cells):=fun w hw=>hw.1;refine ⟨_,hle,⟨Nat.le_refl _,hlen,.inr ⟨b,0,rfl,fun i=>(cells.drop (i*Ja.sz α)).take (Ja.sz α),fun i x e=>⟨?_,Ja.up hle (c.get e)⟩⟩⟩,d⟩;intro k f j u a;have g:j<Ja.sz α:=by
  have:=(List.getElem?_eq_some_iff.1 a).1;simp at this;omega
 rw [List.getElem?_take_of_lt g,List.getElem?_drop] at a;have:=f.2.cells _ u a;rw [Nat.zero_add] at this ⊢;exact this
theorem _root_.Go.Ab.Sep.Um {b:Nat}{cells:List Value}(h:ia μ w0 w (.ba b T cells::rs)):∃ I,da μ I∧Hc I b 0 cells∧ia I w0 w rs :=
 ⟨_,fun _ hw=>hw.1,fun _ hw=>hw.2.cells,Sep.Wx (B:=fun w=>oi w b T cells) h fun _ hw=>hw⟩
theorem _root_.Go.Ab.Sep.Oo {sz:Nat}{b k:Nat}{cells:List Value}{S Ed:Nat→Prop}{A:World→Prop}(h:Sep S Ed w0 w rs A) (c:Vb rs k (.ba b T cells)) (a:cells.length=n*sz) (hlen:n≤maxLen)
  (d:uc rs k (.row (.slice (some ⟨b,0,none⟩) n n) T sz n cells) rs'):Sep S Ed w0 w rs' A:=by
 have e:oi w b T cells:=h.get c;refine h.put (b:=b) c rfl rfl d ⟨a,.inr ⟨b,0,n,⟨cells⟩,rfl,e,Nat.le_refl _,hlen,by simp [a],by simp [← a]⟩⟩ (Fh.refl _)
theorem Pc {x y:Operand}{v:Value}{b o sz:Nat}{k:IntKind}{i:Int}{e:TypeId}(a:P.underlying T=some (.slice e)) (d:qc P e Hf xd sz m) (f:cb fr x v) (h:cb fr y (.int k i)) (he:oj v sz i b o):Qe P (Oper.mk dst (.indexAddr T x y) ty pos after g) fr ((.pointer (some ⟨b,o,none⟩))):=by
 obtain ⟨q,n,c,rfl,j,l,p⟩:=he.out;exact Ku a d f h ⟨j,l⟩ p
theorem ks {x y:Operand}{v:Value}{b o sz:Nat}{k:IntKind}{i:Int}{e:TypeId}(a:P.underlying T=some (.slice e)) (c:qc P e Hf xd sz m) (d:cb fr x v) (f:cb fr y (.int k i)) (he:oj v sz i b o) (j:Te fr dst ((.pointer (some ⟨b,o,none⟩))) ua) (h:K ua ds w):Kd P (Oper.mk dst (.indexAddr T x y) ty pos after g) fr ds w K Q:=ta (Pc a c d f he) j h
theorem ld {x y:Operand}{t Ob:TypeId}{a b c:Int}(d:cb fr x (.int .i64 a)) (e:cb fr y (.int .i64 b)) (h:i64 (a+b)=some c):Qe P (Oper.mk dst (.binOp .add t x y Ob) ty pos after g) fr ((.int .i64 c)):=LD d e (hz h)
theorem Oz {x y:Operand}{t Ob:TypeId}{a b c:Int}(d:cb fr x (.int .i64 a)) (e:cb fr y (.int .i64 b)) (h:i64 (a+b)=some c) (f:Te fr dst ((.int .i64 c)) ua) (k:K ua ds w):Kd P (Oper.mk dst (.binOp .add t x y Ob) ty pos after g) fr ds w K Q:=ta (ld d e h) f k
theorem Ii {x y:Operand}{t Ob:TypeId}{a b c:Int}(d:cb fr x (.int .i64 a)) (e:cb fr y (.int .i64 b)) (h:i64 (a - b)=some c):Qe P (Oper.mk dst (.binOp .sub t x y Ob) ty pos after g) fr ((.int .i64 c)):=gA d e (hz h)
theorem QJ {x y:Operand}{t Ob:TypeId}{a b c:Int}(d:cb fr x (.int .i64 a)) (e:cb fr y (.int .i64 b)) (h:i64 (a - b)=some c) (f:Te fr dst ((.int .i64 c)) ua) (k:K ua ds w):Kd P (Oper.mk dst (.binOp .sub t x y Ob) ty pos after g) fr ds w K Q:=ta (Ii d e h) f k
theorem RJ {x y:Operand}{t Ob:TypeId}{a b c:Int}(d:cb fr x (.int .i64 a)) (e:cb fr y (.int .i64 b)) (h:i64 (a*b)=some c):Qe P (Oper.mk dst (.binOp .mul t x y Ob) ty pos after g) fr ((.int .i64 c)):=hA d e (hz h)
theorem Rr {a b c:Int}(h:quo a b=some c):b≠0∧IntKind.i64.wrap (a.tdiv b)=c:=by
 unfold quo at h;split at h
 ·cases h
 ·rename_i d;exact ⟨d,Option.some.inj h⟩
theorem SJ {x y:Operand}{t:TypeId}{k:IntKind}{a:List UInt8}{i:Int}{c:UInt8}(b:P.underlying t=some .string) (d:cb fr x (S a)) (e:cb fr y (.int k i)) (h:at_ a i=some c):Qe P (Oper.mk dst (.index t x y) ty pos after g) fr (.int .u8 c.toNat):=IJ b d e (Bx h).1 (Bx h).2.2
theorem fx {x y:Operand}{t:TypeId}{k:IntKind}{a:List UInt8}{i:Int}{c:UInt8}(b:P.underlying t=some .string) (d:cb fr x (S a)) (e:cb fr y (.int k i)) (h:at_ a i=some c) (f:Te fr dst (.int .u8 c.toNat) ua) (kk:K ua ds w):Kd P (Oper.mk dst (.index t x y) ty pos after g) fr ds w K Q:=ta (SJ b d e h) f kk
theorem kD {x y:Operand}{t Ob:TypeId}{a b c:List UInt8}(d:cb fr x (S a)) (e:cb fr y (S b)) (h:cat a b=some c):Qe P (Oper.mk dst (.binOp .add t x y Ob) ty pos after g) fr (S c):=by
 obtain ⟨rfl,f⟩:=PJ h;exact BL d e f
structure qq (v:Value) (sz:Nat) (i j:Option Int) (b:Value):Prop where
 out:∃ a n c,v=.slice a n c∧0≤i.getD 0∧i.getD 0≤j.getD n∧j.getD n≤c∧b=.slice (if c=(i.getD 0).toNat then a else a.map (·.add ((i.getD 0).toNat*sz))) ((j.getD n).toNat - (i.getD 0).toNat) (c - (i.getD 0).toNat)
inductive hy (fr:List Value):Option Operand→Option Int→Prop where
 | n:hy fr none none
 | s {x:Operand} {i:Int} (h:cb fr x (.int .i64 i)):hy fr (some x) (some i)
theorem Pl {x:Operand}{Ei up:Option Operand}{v q:Value}{sz:Nat}{i j:Option Int}{e:TypeId}(f:P.underlying T=some (.slice e)) (k:qc P e Hf xd sz m) (l:cb fr x v) (Pa:hy fr Ei i) (r:hy fr up j) (he:qq v sz i j q):Qe P (Oper.mk dst (.slice T x Ei up none) ty pos after g) fr q:=by
 obtain ⟨a,n,c,rfl,o,b,d,rfl⟩:=he.out;refine ⟨fun ds w=>?_⟩;cases Pa with
 | n =>
  cases r with
  | n =>
   simp at b d;simp [execOp,l ds,Instr.sliceAt,Instr.slice,run_underlying f,Instr.sliceBounds,k.sizeOf];try rfl
  | s h =>
   rename_i y i;simp at b d;have ra:i≤(c:Int):=d;simp [execOp,l ds,h ds,Instr.sliceAt,Instr.slice,run_underlying f,Instr.sliceBounds,Instr.sliceBound,asIntOf,k.sizeOf,b,ra];try rfl
 | s h =>
  rename_i y i;cases r with
  | n =>
   simp at o b d;simp [execOp,l ds,h ds,Instr.sliceAt,Instr.slice,run_underlying f,Instr.sliceBounds,Instr.sliceBound,asIntOf,k.sizeOf,o,b];try rfl
  | s t =>
   rename_i z p;simp at o b d;have ra:0≤p:=by omega
   have u:(p.toNat:Int)=p:=by omega
   simp [execOp,l ds,h ds,t ds,Instr.sliceAt,Instr.slice,run_underlying f,Instr.sliceBounds,Instr.sliceBound,asIntOf,k.sizeOf,o,b,d,ra,u];try rfl
theorem Da.rq {α:Type}[Ja α]{μ:M}{a:Option Addr}{c:Nat}{xs ys:List α}{i j:Option Int}(h:Da μ a c xs) (g:cut xs (i.getD 0) (j.getD xs.length)=some ys) :
  ∃ e c',qq (.slice a xs.length c) (Ja.sz α) i j (.slice e ys.length c')∧Da μ e c' ys:=by
 obtain ⟨⟨l,m,q⟩,rfl⟩:=Qr g;have hle:=h.le;refine ⟨(if c=(i.getD 0).toNat then a else a.map (·.add ((i.getD 0).toNat*Ja.sz α))),c - (i.getD 0).toNat,⟨a,xs.length,c,rfl,l,m,by omega,?_⟩,?_⟩
 ·rw [show ((xs.take (j.getD ↑xs.length).toNat).drop (i.getD 0).toNat).length=(j.getD ↑xs.length).toNat - (i.getD 0).toNat by simp;omega]
 ·refine ⟨by simp;omega,by have:=h.cap;omega,?_⟩;rcases h.el with rfl | ⟨b,o,rfl,f,n⟩
  ·left;simp
  ·by_cases hc:c=(i.getD 0).toNat
   ·left;rw [List.drop_eq_nil_iff];simp;omega
   ·right;rw [if_neg hc];refine ⟨b,o+(i.getD 0).toNat*Ja.sz α,by simp [Oj],fun k=>f ((i.getD 0).toNat+k),fun k x d=>?_⟩;rw [List.getElem?_drop] at d;have p:(i.getD 0).toNat+k<(j.getD ↑xs.length).toNat:=by
     have:=(List.getElem?_eq_some_iff.1 d).1;simp at this;omega
    rw [List.getElem?_take_of_lt p] at d;have:=n _ x d;rw [Nat.add_mul,← Nat.add_assoc] at this;exact this
end
end Go.jc
namespace Go.jc
open Go.Ab Go.RowKit
section
variable {P:Program}{Q:Exit→Act→World→Prop}{K:List Value→List Deferred→World→Prop}{fr ua:List Value}{ds:List Deferred}{w:World}
variable {dst:Option Tmp}{ty:TypeId}{pos:String}{after:Array Edge}{g:Option (Nat×Bool)}
variable {w0:World}{rs rs':List mb}{μ:M}
variable {T:TypeId}{d:TypeDesc}{Hf:Bool}{xd:List Value}{n m:Nat}
theorem kC {x Ei:Operand}{t:TypeId}{a b:List UInt8}{i:Int}(c:P.underlying t=some .string) (d:cb fr x (S a)) (Pa:cb fr Ei (.int .i64 i)) (h:cut a i a.length=some b):Qe P (Oper.mk dst (.slice t x (some Ei) none none) ty pos after g) fr (S b):=by
 obtain ⟨⟨e,f,j⟩,rfl⟩:=Qr h;have:=kI (dst:=dst) (ty:=ty) (pos:=pos) (after:=after) (g:=g) c d Pa ⟨e,f⟩;simpa using this
theorem iz {x up:Operand}{t:TypeId}{a b:List UInt8}{j:Int}(c:P.underlying t=some .string) (d:cb fr x (S a)) (e:cb fr up (.int .i64 j)) (h:cut a 0 j=some b):Qe P (Oper.mk dst (.slice t x none (some up) none) ty pos after g) fr (S b):=by
 obtain ⟨⟨k,f,i⟩,rfl⟩:=Qr h;have:=lI (dst:=dst) (ty:=ty) (pos:=pos) (after:=after) (g:=g) c d e ⟨f,i⟩;simpa using this
theorem _root_.Go.Ab.Row.we {v:Value}{sz n:Nat}{xs:List Value}(h:Row w v T sz n xs):we v=true:=by
 rcases h.2 with ⟨rfl,_⟩ | ⟨g,o,cap,cur,rfl,_⟩<;>rfl
theorem Rm {f:Nat}{xs ys:List Operand}{vs us:List Value}(hs:xl fr xs vs) (hu:xl fr ys us):Qe P (Oper.mk dst (.makeFunc (.func f) ⟨xs⟩ ⟨ys⟩) ty pos after g) fr (.func (.func f) ⟨vs⟩ ⟨us⟩):=by
 refine ⟨fun ds w=>?_⟩;have a:=hs ds;have b:=hu ds;simp [execOp,Instr.makeFunc,a,b]
theorem na.app {α:Type}[Ja α]{cells news:List Value}{l xs a:List α}(h:na μ cells l) (k:na μ news xs) (g:app l xs=some a):na μ (cells++news) a:=by
 obtain ⟨rfl,-⟩:=Nz g;exact na.cat k h
theorem Qw {α:Type}{l xs a:List α}(g:app l xs=some a):a.length=l.length+xs.length∧l.length+xs.length≤4294967296:=by
 obtain ⟨rfl,h⟩:=Nz g;exact ⟨by simp,h⟩
theorem Si {α:Type}[Ja α]{t:TypeId}{s x:Operand}{v:Value}{bytes k b El c:Nat}{cells news:List Value}{l ys d:List α}(f:P.underlying t=some (.slice T)) (i:qc P T Hf xd (Ja.sz α) bytes) (j:xd.length=Ja.sz α)
  (hs:cb fr s v) (m:cb fr x (.slice (some ⟨b,0,none⟩) El c)) (n:ia μ w0 w rs) (o:Vb rs k (.row v T (Ja.sz α) l.length cells)) (p:gj w b 0 news) (e:na μ news ys) (hm:ys.length=El) (q:app l ys=some d) (r:bytes≤4096)
  (h:∀ a w' rs',uc rs k (.row a T (Ja.sz α) d.length (cells++news)) rs'→ia μ w0 w' rs'→hh fr dst a fun ua=>K ua ds w') :
  Kd P (Oper.mk dst (.call { callee:=.builtin .append,args:=#[s,x],argTypes:=#[t,t] }) ty pos after g) fr ds w K Q:=by
 obtain ⟨u,y⟩:=Qw q;subst hm;refine Rp f i (by simp [j,Ja.pos]) hs m n o p e.len e.wg ⟨y,r⟩ fun a w' rs' z=>h a w' rs' (by rw [u];exact z)
theorem _root_.Go.Ab.gj.kn {b o:Nat}{cs:List Value}(h:gj w b o cs) (i n:Nat):gj w b (o+i) ((cs.drop i).take n):=by
 intro j v a;have c:j<n:=by
  have:=(List.getElem?_eq_some_iff.1 a).1;simp at this;omega
 rw [List.getElem?_take_of_lt c,List.getElem?_drop] at a;have:=h _ v a;rw [← Nat.add_assoc] at this;exact this
theorem Hc.kn {b o:Nat}{cs:List Value}(h:Hc μ b o cs) (i n:Nat):Hc μ b (o+i) ((cs.drop i).take n):=fun w hw=>(h w hw).kn i n
theorem ad {x y:Operand}{b k:Nat}{cs vs:List Value}(d:qc P T Hf xd n m) (e:cb fr x (.pointer (some ⟨b,0,none⟩))) (f:cb fr y (.agg ⟨vs⟩)) (i:vs.length=n) (j:vs.all we=true)
  {S Ed:Nat→Prop}{A:World→Prop}(l:Sep S Ed w0 w rs A) {a:TypeId}(o:Vb rs k (.ba b a cs)) (he:cs.length=n) (p:uc rs k (.ba b a vs) rs')
  (Qa:Te fr dst undef ua) (h:∀ w',Sep S Ed w0 w' rs' A→K ua ds w'):Kd P (Oper.mk dst (.store T x y) ty pos after g) fr ds w K Q:=by
 have key:∀ (vs cs pre:List Value),vs.length=cs.length→Th (pre++cs) pre.length vs (pre++vs):=by
  intro vs
  induction vs with
  | nil=>intro cs pre h; cases cs with
   | nil=>exact .z
   | cons c cs=>simp at h
  | cons v vs q =>
   intro cs pre h;cases cs with
   | nil=>simp at h
   | cons c cs =>
    refine .s (cs1:=pre++v::cs) (by unfold uc;simp) (by simp) ?_;have:=q cs (pre++[v]) (by simpa using h);simpa using this
 exact zz d e f rfl i j l o (by simpa using key vs cs [] (by omega)) (by simp) p Qa h
theorem Bz {pl:Array (Nat×Nat)}{xs:List (Nat×Operand)}{out:List Value}(a:qc P T Hf xd n m) (b:uh P T pl) (c:Bb fr pl xd xs out):Qe P (Oper.mk dst (.build T ⟨xs⟩) ty pos after g) fr (.agg ⟨out⟩):=by
 refine ⟨fun ds w=>?_⟩;obtain ⟨z,d,hc⟩:=a.zero (w:=w);have e:=c.run (ds:=ds);obtain ⟨fs,f,h⟩:=b.out;have hm:=h w;have j:((⟨xs⟩:Array (Nat×Operand)).map fun (i,x)=>(i,(F fr ds).eval x)).toList=xs.map fun p=>(p.1,(F fr ds).eval p.2):=by simp
 unfold execOp;simp only [Instr.build,Sem.run_bind,d,Result.andThen_ok,run_underlying f];rw [hm];simp only [Result.andThen_ok,hc,j];rw [e];simp
end
end Go.jc
namespace Go.Ab
theorem oa {α:Type}{a0 pa a2 a3 a4 a5 Eb dc jb a9 v:α}{l:List α}{n:Nat}(h:Vb l n v):Vb (a0::pa::a2::a3::a4::a5::Eb::dc::jb::a9::l) (n+10) v:=h
theorem Ua {α:Type}{a0 pa a2 a3 a4 a5 Eb dc jb a9 v:α}{l a:List α}{n:Nat}(h:uc l n v a):uc (a0::pa::a2::a3::a4::a5::Eb::dc::jb::a9::l) (n+10) v (a0::pa::a2::a3::a4::a5::Eb::dc::jb::a9::a):=by unfold uc at *;subst h;rfl
theorem za {α:Type}{a0 pa a2 a3 a4 a5 Eb dc jb a9 Bd Dc a12 a Kc b c d e f v:α}{l:List α}{n:Nat}(h:Vb l n v):Vb (a0::pa::a2::a3::a4::a5::Eb::dc::jb::a9::Bd::Dc::a12::a::Kc::b::c::d::e::f::l) (n+20) v:=h
theorem gb {α:Type}{a0 pa a2 a3 a4 a5 Eb dc jb a9 Bd Dc a12 a Kc b c d e f v:α}{l g:List α}{n:Nat}(h:uc l n v g):uc (a0::pa::a2::a3::a4::a5::Eb::dc::jb::a9::Bd::Dc::a12::a::Kc::b::c::d::e::f::l) (n+20) v (a0::pa::a2::a3::a4::a5::Eb::dc::jb::a9::Bd::Dc::a12::a::Kc::b::c::d::e::f::g):=by unfold uc at *;subst h;rfl
theorem va {α:Type}{a0 pa a2 a3 a4 a5 Eb dc jb a9 Bd Dc a12 a Kc b c d e f a20 a21 a22 a23 a24 a25 a26 g a28 i v:α}{l:List α}{n:Nat}(h:Vb l n v):Vb (a0::pa::a2::a3::a4::a5::Eb::dc::jb::a9::Bd::Dc::a12::a::Kc::b::c::d::e::f::a20::a21::a22::a23::a24::a25::a26::g::a28::i::l) (n+30) v:=h
theorem zb {α:Type}{a0 pa a2 a3 a4 a5 Eb dc jb a9 Bd Dc a12 a Kc b c d e f a20 a21 a22 a23 a24 a25 a26 g a28 i v:α}{l j:List α}{n:Nat}(h:uc l n v j):uc (a0::pa::a2::a3::a4::a5::Eb::dc::jb::a9::Bd::Dc::a12::a::Kc::b::c::d::e::f::a20::a21::a22::a23::a24::a25::a26::g::a28::i::l) (n+30) v (a0::pa::a2::a3::a4::a5::Eb::dc::jb::a9::Bd::Dc::a12::a::Kc::b::c::d::e::f::a20::a21::a22::a23::a24::a25::a26::g::a28::i::j):=by unfold uc at *;subst h;rfl
theorem Na {α:Type}{a0 pa a2 a3 a4 a5 Eb dc jb a9 Bd Dc a12 a Kc b c d e f a20 a21 a22 a23 a24 a25 a26 g a28 i j a31 k m o p q a37 r s v:α}{l:List α}{n:Nat}(h:Vb l n v):Vb (a0::pa::a2::a3::a4::a5::Eb::dc::jb::a9::Bd::Dc::a12::a::Kc::b::c::d::e::f::a20::a21::a22::a23::a24::a25::a26::g::a28::i::j::a31::k::m::o::p::q::a37::r::s::l) (n+40) v:=h
theorem Ub {α:Type}{a0 pa a2 a3 a4 a5 Eb dc jb a9 Bd Dc a12 a Kc b c d e f a20 a21 a22 a23 a24 a25 a26 g a28 i j a31 k m o p q a37 r s v:α}{l t:List α}{n:Nat}(h:uc l n v t):uc (a0::pa::a2::a3::a4::a5::Eb::dc::jb::a9::Bd::Dc::a12::a::Kc::b::c::d::e::f::a20::a21::a22::a23::a24::a25::a26::g::a28::i::j::a31::k::m::o::p::q::a37::r::s::l) (n+40) v (a0::pa::a2::a3::a4::a5::Eb::dc::jb::a9::Bd::Dc::a12::a::Kc::b::c::d::e::f::a20::a21::a22::a23::a24::a25::a26::g::a28::i::j::a31::k::m::o::p::q::a37::r::s::t):=by unfold uc at *;subst h;rfl
theorem Xa {α:Type}{a0 pa a2 a3 a4 a5 Eb dc jb a9 Bd Dc a12 a Kc b c d e f a20 a21 a22 a23 a24 a25 a26 g a28 i j a31 k m o p q a37 r s a40 t u w x y a46 z A a49 v:α}{l:List α}{n:Nat}(h:Vb l n v):Vb (a0::pa::a2::a3::a4::a5::Eb::dc::jb::a9::Bd::Dc::a12::a::Kc::b::c::d::e::f::a20::a21::a22::a23::a24::a25::a26::g::a28::i::j::a31::k::m::o::p::q::a37::r::s::a40::t::u::w::x::y::a46::z::A::a49::l) (n+50) v:=h
theorem Zb {α:Type}{a0 pa a2 a3 a4 a5 Eb dc jb a9 Bd Dc a12 a Kc b c d e f a20 a21 a22 a23 a24 a25 a26 g a28 i j a31 k m o p q a37 r s a40 t u w x y a46 z A a49 v:α}{l B:List α}{n:Nat}(h:uc l n v B):uc (a0::pa::a2::a3::a4::a5::Eb::dc::jb::a9::Bd::Dc::a12::a::Kc::b::c::d::e::f::a20::a21::a22::a23::a24::a25::a26::g::a28::i::j::a31::k::m::o::p::q::a37::r::s::a40::t::u::w::x::y::a46::z::A::a49::l) (n+50) v (a0::pa::a2::a3::a4::a5::Eb::dc::jb::a9::Bd::Dc::a12::a::Kc::b::c::d::e::f::a20::a21::a22::a23::a24::a25::a26::g::a28::i::j::a31::k::m::o::p::q::a37::r::s::a40::t::u::w::x::y::a46::z::A::a49::B):=by unfold uc at *;subst h;rfl
theorem Yb {α:Type}{a0 pa a2 a3 a4 a5 Eb dc jb a9 Bd Dc a12 a Kc b c d e f a20 a21 a22 a23 a24 a25 a26 g a28 i j a31 k m o p q a37 r s a40 t u w x y a46 z A a49 B a51 C a53 D F G H K a59 v:α}{l:List α}{n:Nat}(h:Vb l n v):Vb (a0::pa::a2::a3::a4::a5::Eb::dc::jb::a9::Bd::Dc::a12::a::Kc::b::c::d::e::f::a20::a21::a22::a23::a24::a25::a26::g::a28::i::j::a31::k::m::o::p::q::a37::r::s::a40::t::u::w::x::y::a46::z::A::a49::B::a51::C::a53::D::F::G::H::K::a59::l) (n+60) v:=h
theorem Nc {α:Type}{a0 pa a2 a3 a4 a5 Eb dc jb a9 Bd Dc a12 a Kc b c d e f a20 a21 a22 a23 a24 a25 a26 g a28 i j a31 k m o p q a37 r s a40 t u w x y a46 z A a49 B a51 C a53 D F G H K a59 v:α}{l L:List α}{n:Nat}(h:uc l n v L):uc (a0::pa::a2::a3::a4::a5::Eb::dc::jb::a9::Bd::Dc::a12::a::Kc::b::c::d::e::f::a20::a21::a22::a23::a24::a25::a26::g::a28::i::j::a31::k::m::o::p::q::a37::r::s::a40::t::u::w::x::y::a46::z::A::a49::B::a51::C::a53::D::F::G::H::K::a59::l) (n+60) v (a0::pa::a2::a3::a4::a5::Eb::dc::jb::a9::Bd::Dc::a12::a::Kc::b::c::d::e::f::a20::a21::a22::a23::a24::a25::a26::g::a28::i::j::a31::k::m::o::p::q::a37::r::s::a40::t::u::w::x::y::a46::z::A::a49::B::a51::C::a53::D::F::G::H::K::a59::L):=by unfold uc at *;subst h;rfl
theorem Qc {α:Type}{a0 pa a2 a3 a4 a5 Eb dc jb a9 Bd Dc a12 a Kc b c d e f a20 a21 a22 a23 a24 a25 a26 g a28 i j a31 k m o p q a37 r s a40 t u w x y a46 z A a49 B a51 C a53 D F G H K a59 L M N O P Q R S T U v:α}{l:List α}{n:Nat}(h:Vb l n v):Vb (a0::pa::a2::a3::a4::a5::Eb::dc::jb::a9::Bd::Dc::a12::a::Kc::b::c::d::e::f::a20::a21::a22::a23::a24::a25::a26::g::a28::i::j::a31::k::m::o::p::q::a37::r::s::a40::t::u::w::x::y::a46::z::A::a49::B::a51::C::a53::D::F::G::H::K::a59::L::M::N::O::P::Q::R::S::T::U::l) (n+70) v:=h
theorem Zf {α:Type}{a0 pa a2 a3 a4 a5 Eb dc jb a9 Bd Dc a12 a Kc b c d e f a20 a21 a22 a23 a24 a25 a26 g a28 i j a31 k m o p q a37 r s a40 t u w x y a46 z A a49 B a51 C a53 D F G H K a59 L M N O P Q R S T U v:α}{l W:List α}{n:Nat}(h:uc l n v W):uc (a0::pa::a2::a3::a4::a5::Eb::dc::jb::a9::Bd::Dc::a12::a::Kc::b::c::d::e::f::a20::a21::a22::a23::a24::a25::a26::g::a28::i::j::a31::k::m::o::p::q::a37::r::s::a40::t::u::w::x::y::a46::z::A::a49::B::a51::C::a53::D::F::G::H::K::a59::L::M::N::O::P::Q::R::S::T::U::l) (n+70) v (a0::pa::a2::a3::a4::a5::Eb::dc::jb::a9::Bd::Dc::a12::a::Kc::b::c::d::e::f::a20::a21::a22::a23::a24::a25::a26::g::a28::i::j::a31::k::m::o::p::q::a37::r::s::a40::t::u::w::x::y::a46::z::A::a49::B::a51::C::a53::D::F::G::H::K::a59::L::M::N::O::P::Q::R::S::T::U::W):=by unfold uc at *;subst h;rfl
theorem jd {α:Type}{a0 pa a2 a3 a4 a5 Eb dc jb a9 Bd Dc a12 a Kc b c d e f a20 a21 a22 a23 a24 a25 a26 g a28 i j a31 k m o p q a37 r s a40 t u w x y a46 z A a49 B a51 C a53 D F G H K a59 L M N O P Q R S T U a70 W a72 X Y a75 a76 Z gc hc v:α}{l:List α}{n:Nat}(h:Vb l n v):Vb (a0::pa::a2::a3::a4::a5::Eb::dc::jb::a9::Bd::Dc::a12::a::Kc::b::c::d::e::f::a20::a21::a22::a23::a24::a25::a26::g::a28::i::j::a31::k::m::o::p::q::a37::r::s::a40::t::u::w::x::y::a46::z::A::a49::B::a51::C::a53::D::F::G::H::K::a59::L::M::N::O::P::Q::R::S::T::U::a70::W::a72::X::Y::a75::a76::Z::gc::hc::l) (n+80) v:=h
theorem Oe {α:Type}{a0 pa a2 a3 a4 a5 Eb dc jb a9 Bd Dc a12 a Kc b c d e f a20 a21 a22 a23 a24 a25 a26 g a28 i j a31 k m o p q a37 r s a40 t u w x y a46 z A a49 B a51 C a53 D F G H K a59 L M N O P Q R S T U a70 W a72 X Y a75 a76 Z gc hc v:α}{l lc:List α}{n:Nat}(h:uc l n v lc):uc (a0::pa::a2::a3::a4::a5::Eb::dc::jb::a9::Bd::Dc::a12::a::Kc::b::c::d::e::f::a20::a21::a22::a23::a24::a25::a26::g::a28::i::j::a31::k::m::o::p::q::a37::r::s::a40::t::u::w::x::y::a46::z::A::a49::B::a51::C::a53::D::F::G::H::K::a59::L::M::N::O::P::Q::R::S::T::U::a70::W::a72::X::Y::a75::a76::Z::gc::hc::l) (n+80) v (a0::pa::a2::a3::a4::a5::Eb::dc::jb::a9::Bd::Dc::a12::a::Kc::b::c::d::e::f::a20::a21::a22::a23::a24::a25::a26::g::a28::i::j::a31::k::m::o::p::q::a37::r::s::a40::t::u::w::x::y::a46::z::A::a49::B::a51::C::a53::D::F::G::H::K::a59::L::M::N::O::P::Q::R::S::T::U::a70::W::a72::X::Y::a75::a76::Z::gc::hc::lc):=by unfold uc at *;subst h;rfl
theorem bf {α:Type}{a0 pa a2 a3 a4 a5 Eb dc jb a9 Bd Dc a12 a Kc b c d e f a20 a21 a22 a23 a24 a25 a26 g a28 i j a31 k m o p q a37 r s a40 t u w x y a46 z A a49 B a51 C a53 D F G H K a59 L M N O P Q R S T U a70 W a72 X Y a75 a76 Z gc hc a80 lc rc fd id a85 md a87 rd td v:α}{l:List α}{n:Nat}(h:Vb l n v):Vb (a0::pa::a2::a3::a4::a5::Eb::dc::jb::a9::Bd::Dc::a12::a::Kc::b::c::d::e::f::a20::a21::a22::a23::a24::a25::a26::g::a28::i::j::a31::k::m::o::p::q::a37::r::s::a40::t::u::w::x::y::a46::z::A::a49::B::a51::C::a53::D::F::G::H::K::a59::L::M::N::O::P::Q::R::S::T::U::a70::W::a72::X::Y::a75::a76::Z::gc::hc::a80::lc::rc::fd::id::a85::md::a87::rd::td::l) (n+90) v:=h
theorem Mi {α:Type}{a0 pa a2 a3 a4 a5 Eb dc jb a9 Bd Dc a12 a Kc b c d e f a20 a21 a22 a23 a24 a25 a26 g a28 i j a31 k m o p q a37 r s a40 t u w x y a46 z A a49 B a51 C a53 D F G H K a59 L M N O P Q R S T U a70 W a72 X Y a75 a76 Z gc hc a80 lc rc fd id a85 md a87 rd td v:α}{l wd:List α}{n:Nat}(h:uc l n v wd):uc (a0::pa::a2::a3::a4::a5::Eb::dc::jb::a9::Bd::Dc::a12::a::Kc::b::c::d::e::f::a20::a21::a22::a23::a24::a25::a26::g::a28::i::j::a31::k::m::o::p::q::a37::r::s::a40::t::u::w::x::y::a46::z::A::a49::B::a51::C::a53::D::F::G::H::K::a59::L::M::N::O::P::Q::R::S::T::U::a70::W::a72::X::Y::a75::a76::Z::gc::hc::a80::lc::rc::fd::id::a85::md::a87::rd::td::l) (n+90) v (a0::pa::a2::a3::a4::a5::Eb::dc::jb::a9::Bd::Dc::a12::a::Kc::b::c::d::e::f::a20::a21::a22::a23::a24::a25::a26::g::a28::i::j::a31::k::m::o::p::q::a37::r::s::a40::t::u::w::x::y::a46::z::A::a49::B::a51::C::a53::D::F::G::H::K::a59::L::M::N::O::P::Q::R::S::T::U::a70::W::a72::X::Y::a75::a76::Z::gc::hc::a80::lc::rc::fd::id::a85::md::a87::rd::td::wd):=by unfold uc at *;subst h;rfl
theorem bb {α:Type}{a0 pa a2 a3 a4 a5 Eb dc jb a9 Bd Dc a12 a Kc b c d e f a20 a21 a22 a23 a24 a25 a26 g a28 i j a31 k m o p q a37 r s a40 t u w x y a46 z A a49 B a51 C a53 D F G H K a59 L M N O P Q R S T U a70 W a72 X Y a75 a76 Z gc hc a80 lc rc fd id a85 md a87 rd td wd a91 Fd a93 Id be ce ge he le v:α}{l:List α}{n:Nat}(h:Vb l n v):Vb (a0::pa::a2::a3::a4::a5::Eb::dc::jb::a9::Bd::Dc::a12::a::Kc::b::c::d::e::f::a20::a21::a22::a23::a24::a25::a26::g::a28::i::j::a31::k::m::o::p::q::a37::r::s::a40::t::u::w::x::y::a46::z::A::a49::B::a51::C::a53::D::F::G::H::K::a59::L::M::N::O::P::Q::R::S::T::U::a70::W::a72::X::Y::a75::a76::Z::gc::hc::a80::lc::rc::fd::id::a85::md::a87::rd::td::wd::a91::Fd::a93::Id::be::ce::ge::he::le::l) (n+100) v:=h
theorem yc {α:Type}{a0 pa a2 a3 a4 a5 Eb dc jb a9 Bd Dc a12 a Kc b c d e f a20 a21 a22 a23 a24 a25 a26 g a28 i j a31 k m o p q a37 r s a40 t u w x y a46 z A a49 B a51 C a53 D F G H K a59 L M N O P Q R S T U a70 W a72 X Y a75 a76 Z gc hc a80 lc rc fd id a85 md a87 rd td wd a91 Fd a93 Id be ce ge he le v:α}{l ne:List α}{n:Nat}(h:uc l n v ne):uc (a0::pa::a2::a3::a4::a5::Eb::dc::jb::a9::Bd::Dc::a12::a::Kc::b::c::d::e::f::a20::a21::a22::a23::a24::a25::a26::g::a28::i::j::a31::k::m::o::p::q::a37::r::s::a40::t::u::w::x::y::a46::z::A::a49::B::a51::C::a53::D::F::G::H::K::a59::L::M::N::O::P::Q::R::S::T::U::a70::W::a72::X::Y::a75::a76::Z::gc::hc::a80::lc::rc::fd::id::a85::md::a87::rd::td::wd::a91::Fd::a93::Id::be::ce::ge::he::le::l) (n+100) v (a0::pa::a2::a3::a4::a5::Eb::dc::jb::a9::Bd::Dc::a12::a::Kc::b::c::d::e::f::a20::a21::a22::a23::a24::a25::a26::g::a28::i::j::a31::k::m::o::p::q::a37::r::s::a40::t::u::w::x::y::a46::z::A::a49::B::a51::C::a53::D::F::G::H::K::a59::L::M::N::O::P::Q::R::S::T::U::a70::W::a72::X::Y::a75::a76::Z::gc::hc::a80::lc::rc::fd::id::a85::md::a87::rd::td::wd::a91::Fd::a93::Id::be::ce::ge::he::le::ne):=by unfold uc at *;subst h;rfl
end Go.Ab
namespace Go.Ab
open Go.RowKit
section
variable {P:Program}{Q:Exit→Act→World→Prop}{K:List Value→List Deferred→World→Prop}{fr ua:List Value}{ds:List Deferred}{w:World}
variable {dst:Option Tmp}{ty:TypeId}{pos:String}{after:Array Edge}{g:Option (Nat×Bool)}
variable {S Ed:Nat→Prop}{w0:World}{rs rs':List mb}{A:World→Prop}
variable {T:TypeId}
inductive dk:TypeDesc→Value→Prop where
 | str (l:List UInt8):dk .string (Ab.S l)
 | int (k:IntKind) (n:Int):dk (.int k) (.int k n)
def Sj:Value→Value→Bool
 | .string a,.string b=>decide (a.data.toList=b.data.toList)
 | .int _ a,.int _ b=>decide (a=b)
 | _,_=>false
def ml (es:List MapEntry) (k:Value):Option (Nat×Value):=(es.zipIdx.find? fun e=>Sj k e.1.key).map fun e=>(e.2,e.1.val)
theorem rF {d:TypeDesc}{k:Value}(a:dk d k):∀ (es:List MapEntry) (i:Nat),(∀ e ∈ es,dk d e.key)→Instr.findNow d k es i=some (((es.zipIdx i).find? fun e=>Sj k e.1.key).map fun e=>(e.2,e.1.val)):=by
 intro es
 induction es with
 | nil=>intro i _; simp [Instr.findNow]
 | cons e es b =>
  intro i h;have he:=h e (by simp);have c:=b (i+1) fun x f=>h x (by simp [f]);simp only [Instr.findNow,List.zipIdx_cons,List.find?_cons];have hs:Instr.sameNow d k e.key=some (Sj k e.key):=by
   generalize e.key=g at he;cases a with
   | str l =>
    cases he with
    | str j =>
     simp only [Instr.sameNow,Ab.S,Sj];congr 1;rw [Bool.eq_iff_iff,gz];simp
   | int kk n =>
    cases he with
    | int _ m =>
     simp only [Instr.sameNow,if_true,Sj];congr 1
  rw [hs];cases o:Sj k e.key with
  | true=>simp
  | false=>exact c
theorem run_findKey {Re:TypeId}{d:TypeDesc}{k:Value}{es:List MapEntry}(a:P.underlying Re=some d) (b:dk d k) (he:∀ e ∈ es,dk d e.key):(Instr.findKey Re k es).run P w=.ok (ml es k) w:=by
 unfold Instr.findKey ml;simp only [Sem.run_bind,run_underlying a,Result.andThen_ok,rF b es 0 he];rfl
theorem run_checkKey {Re:TypeId}{d:TypeDesc}{k:Value}{b:Bool}(a:P.underlying Re=some d) (c:dk d k):(Instr.checkKey b 10000 Re k).run P w=.ok () w:=by
 show (Instr.checkKey b (9999+1) Re k).run P w=_;unfold Instr.checkKey;simp only [Sem.run_bind,run_underlying a,Result.andThen_ok];cases c<;>rfl
theorem Sk (a:Sep S Ed w0 w rs A) (h:∀ b w',w.heap.size≤b→Sep S Ed w0 w' (.map b [] 0::rs) A→hh fr dst (.map (some b)) fun ua=>K ua ds w'):Kd P (Oper.mk dst (.makeMap T none) ty pos after g) fr ds w K Q:=by
 obtain ⟨ua,Qa⟩:=Ji fr dst (.map (some w.heap.size));refine Qh (v:=.map (some w.heap.size)) (w':=w.alloc (.map #[] 0)) ?_ Qa (h _ _ (Nat.le_refl _) (a.alloc rfl (heap_alloc_new w _)) ua Qa);simp [execOp,Instr.makeMap]
def nk (es:List MapEntry) (k z:Value):Value:=(ml es k).elim z (·.2)
def Uo (es:List MapEntry) (k:Value):Bool:=(ml es k).isSome
def putAt (es:List MapEntry) (c:Nat) (k v:Value):List MapEntry:=match ml es k with
 | some (i,_)=>es.modify i fun e=>{ e with key:=k,val:=v }
 | none=>es++[{ key:=k,val:=v,born:=c }]
def lq (es:List MapEntry) (c:Nat) (k:Value):Nat:=match ml es k with
 | some _=>c
 | none=>c+1
theorem sF {es:List MapEntry}{k v:Value}{i:Nat}(h:ml es k=some (i,v)):∃ e,es[i]?=some e∧Sj k e.key=true∧e.val=v:=by
 unfold ml at h;cases a:es.zipIdx.find? fun e=>Sj k e.1.key with
 | none=>rw [a] at h; cases h
 | some x =>
  rw [a] at h;simp only [Option.map_some,Option.some.injEq,Prod.mk.injEq] at h;obtain ⟨rfl,rfl⟩:=h;have b:=List.find?_some (p:=fun e:MapEntry×Nat=>Sj k e.1.key) a;have c:=List.mem_of_find?_eq_some a;exact ⟨x.1,by have:=List.mem_zipIdx_iff_getElem?.1 c;simpa using this,b,rfl⟩
theorem fG {d:TypeDesc}{k a:Value}(c:dk d k) (b:dk d a) (h:Sj k a=true):Instr.sameBits 10000 a k=true:=by
 cases c with
 | str l =>
  cases b with
  | str e =>
   simp [Sj,Ab.S] at h;subst h;simp only [Instr.sameBits,Ab.S];exact (gz _ _).2 rfl
 | int kk n =>
  cases b with
  | int _ f =>
   simp [Sj] at h;subst h;simp [Instr.sameBits]
theorem TJ {x y z:Operand}{Re aa:TypeId}{d:TypeDesc}{Qf v:Value}{b c k:Nat}{es:List MapEntry}(m:P.underlying T=some (.map Re aa)) (n:P.underlying Re=some d) (o:cb fr x (.map (some b))) (p:cb fr y Qf) (a:dk d Qf) (q:cb fr z v)
  (r:Sep S Ed w0 w rs A) (s:Vb rs k (.map b es c)) (he:∀ e ∈ es,dk d e.key)
  (Qa:Te fr dst undef ua) (h:∀ w' rs',uc rs k (.map b (putAt es c Qf v) (lq es c Qf)) rs'→Sep S Ed w0 w' rs' A→K ua ds w'):Kd P (Oper.mk dst (.mapUpdate T x y z) ty pos after g) fr ds w K Q:=by
 have f:w.heap[b]?=some (.map ⟨es⟩ c):=r.get s;have D:b<w.heap.size:=(Array.getElem?_eq_some_iff.1 f).1
 let w':World:={ w with heap:=w.heap.setIfInBounds b (.map ⟨putAt es c Qf v⟩ (lq es c Qf)) }
 have F:Fh (fun k=>k≠b) w w':=⟨rfl,rfl,rfl,by simp [w'],fun j _ G=>by simp [w',Array.getElem?_setIfInBounds,Ne.symm G]⟩;have H:=r.put (b:=b) (r':=.map b (putAt es c Qf v) (lq es c Qf)) (w':=w') s rfl rfl rfl (by show w'.heap[b]?=_;simp [w',D]) F;have t:=run_checkKey (P:=P) (w:=w) (b:=false) n a;have B:=run_findKey (P:=P) (w:=w) n a he;refine FA (w':=w') ?_ Qa (h w' _ rfl H);cases l:ml es Qf with
 | none=>simp [execOp,o ds,p ds,q ds,Instr.mapUpdate,run_underlying m,getObj,setObj,Sem.run,f,Result.andThen,t,B,l,w',putAt,lq]
 | some e =>
  obtain ⟨i,u⟩:=e;obtain ⟨e,C,L,-⟩:=sF l;have M:=fG a (he e (List.mem_of_getElem? C)) L;simp [execOp,o ds,p ds,q ds,Instr.mapUpdate,run_underlying m,getObj,setObj,Sem.run,f,Result.andThen,t,B,l,C,Instr.keyThatStays,M,w',putAt,lq]
theorem TG {x:Operand}{Re aa:TypeId}{m c k:Nat}{es:List MapEntry}(d:P.underlying T=some (.map Re aa)) (e:cb fr x (.map (some m))) (a:Sep S Ed w0 w rs A) (f:Vb rs k (.map m es c))
  (h:∀ b w',w.heap.size≤b→Sep S Ed w0 w' (.bl b m c [] c::rs) A→hh fr dst (.pointer (some ⟨b,0,none⟩)) fun ua=>K ua ds w'):Kd P (Oper.mk dst (.range T x) ty pos after g) fr ds w K Q:=by
 have i:w.heap[m]?=some (.map ⟨es⟩ c):=a.get f;obtain ⟨ua,Qa⟩:=Ji fr dst (.pointer (some ⟨w.heap.size,0,none⟩));refine Qh (v:=.pointer (some ⟨w.heap.size,0,none⟩)) (w':=w.alloc (.mapIter (some m) c #[] c)) ?_ Qa (h _ _ (Nat.le_refl _) (a.alloc rfl (heap_alloc_new w _)) ua Qa);simp [execOp,e ds,Instr.range,run_underlying d,getObj,Sem.run,i,Result.andThen]
end
end Go.Ab
namespace Go.jc
open Go.Ab Go.RowKit
section
variable {P:Program}{Q:Exit→Act→World→Prop}{K:List Value→List Deferred→World→Prop}{fr ua:List Value}{ds:List Deferred}{w:World}
variable {dst:Option Tmp}{ty:TypeId}{pos:String}{after:Array Edge}{g:Option (Nat×Bool)}
variable {w0:World}{rs rs':List mb}{μ I:M}
variable {T:TypeId}{d:TypeDesc}{Hf:Bool}{xd:List Value}{n m:Nat}
theorem oI {x y:Operand}{Re aa:TypeId}{d:TypeDesc}{Qf z:Value}{b c:Nat}{es:List MapEntry}(a:P.underlying T=some (.map Re aa)) (f:P.underlying Re=some d) (i:cb fr x (.map (some b))) (j:cb fr y Qf) (k:dk d Qf)
  (p:∀ w,(zeroValue aa).run P w=.ok z w) (l:w.heap[b]?=some (.map ⟨es⟩ c)) (he:∀ e ∈ es,dk d e.key)
  (q:Te fr dst (nk es Qf z) ua) (h:K ua ds w):Kd P (Oper.mk dst (.lookup T x y false) ty pos after g) fr ds w K Q:=by
 refine Qh (w':=w) ?_ q h;have m:=run_checkKey (w:=w) (b:=es.isEmpty) f k;have n:=run_findKey (w:=w) f k he;cases o:ml es Qf with
 | none=>simp [execOp,i ds,j ds,Instr.lookup,run_underlying a,getObj,Sem.run,l,Result.andThen,m,n,o,p w,nk]
 | some e=>simp [execOp,i ds,j ds,Instr.lookup,run_underlying a,getObj,Sem.run,l,Result.andThen,m,n,o,nk]
theorem jz {x y:Operand}{Re aa:TypeId}{d:TypeDesc}{Qf z:Value}{b c:Nat}{es:List MapEntry}(a:P.underlying T=some (.map Re aa)) (f:P.underlying Re=some d) (i:cb fr x (.map (some b))) (j:cb fr y Qf) (k:dk d Qf)
  (p:∀ w,(zeroValue aa).run P w=.ok z w) (l:w.heap[b]?=some (.map ⟨es⟩ c)) (he:∀ e ∈ es,dk d e.key)
  (q:Te fr dst (.tuple #[nk es Qf z,.bool (Uo es Qf)]) ua) (h:K ua ds w):Kd P (Oper.mk dst (.lookup T x y true) ty pos after g) fr ds w K Q:=by
 refine Qh (w':=w) ?_ q h;have m:=run_checkKey (w:=w) (b:=es.isEmpty) f k;have n:=run_findKey (w:=w) f k he;cases o:ml es Qf with
 | none=>simp [execOp,i ds,j ds,Instr.lookup,run_underlying a,getObj,Sem.run,l,Result.andThen,m,n,o,p w,nk,Uo]
 | some e=>simp [execOp,i ds,j ds,Instr.lookup,run_underlying a,getObj,Sem.run,l,Result.andThen,m,n,o,nk,Uo]
class qb (κ:Type) [DecidableEq κ] where
 key:κ→Value
 bm:TypeDesc
 Re:∀ k,dk bm (key k)
 eq:∀ a b,Sj (key a) (key b)=decide (a=b)
instance:qb (List UInt8) where
 key:=S
 bm:=.string
 Re:=.str
 eq a b:=by simp [Sj,S]
instance:qb Int where
 key n:=.int .i64 n
 bm:=.int .i64
 Re:=.int .i64
 eq a b:=by simp [Sj]
class Mh (β:Type) where
 wj:M→Value→β→Prop
 up:∀ {μ I:M}{v:Value}{x:β},da μ I→wj μ v x→wj I v x
instance:Mh Int where
 wj _ v x:=v=.int .i64 x
 up _ h:=h
instance:Mh Bool where
 wj _ v x:=v=.bool x
 up _ h:=h
def wq {α:Type}[Ja α] (μ:M) (v:Value) (x:α):Prop:=∃ cs,v=.agg ⟨cs⟩∧Ja.cs μ cs x
theorem wq.up {α:Type}[Ja α]{v:Value}{x:α}(l:da μ I) (h:wq μ v x):wq I v x:=by
 obtain ⟨cs,a,b⟩:=h;exact ⟨cs,a,Ja.up l b⟩
def fo {α:Type}[Ja α] (μ:M) (v:Value) (x:α):Prop:=∃ b o cs,v=.pointer (some ⟨b,o,none⟩)∧Hc μ b o cs∧Ja.cs μ cs x
theorem fo.up {α:Type}[Ja α]{v:Value}{x:α}(l:da μ I) (h:fo μ v x):fo I v x:=by
 obtain ⟨b,o,cs,a,c,d⟩:=h;exact ⟨b,o,cs,a,c.up l,Ja.up l d⟩
def Ue {α:Type}[Ja α] (μ:M) (v:Value):Option α→Prop
 | none=>v=.pointer none
 | some x=>fo μ v x
theorem Ue.up {α:Type}[Ja α]{v:Value}{x:Option α}(h:Ue μ v x) (l:da μ I):Ue I v x:=by
 cases x with
 | none=>exact h
 | some x=>exact fo.up l h
theorem Ue.we {α:Type}[Ja α]{v:Value}{x:Option α}(h:Ue μ v x):we v=true:=by
 cases x with
 | none=>rw [show v=.pointer none from h]; rfl
 | some x=>obtain ⟨b,o,cs,rfl,-⟩:=h; rfl
theorem Ue.of {α:Type}[Ja α]{b o:Nat}{cs:List Value}{x:α}(h:Hc μ b o cs) (k:Ja.cs μ cs x):Ue μ (.pointer (some ⟨b,o,none⟩)) (some x):=⟨b,o,cs,rfl,h,k⟩
theorem Ue.get {α:Type}[Ja α]{v:Value}{o:Option α}{x:α}(h:Ue μ v o) (g:o=some x):∃ b o cs,v=.pointer (some ⟨b,o,none⟩)∧Hc μ b o cs∧Ja.cs μ cs x:=by
 subst g;exact h
instance {α:Type}[Ja α]:Ja (Option α) where
 sz:=1
 pos:=by decide
 cs μ l x:=∃ v,l=[v]∧Ue μ v x
 Hg h:=by obtain ⟨v,rfl,-⟩:=h;rfl
 up l h:=by obtain ⟨v,a,b⟩:=h;exact ⟨v,a,b.up l⟩
 wg h:=by obtain ⟨v,rfl,h⟩:=h;simp [h.we]
def zc {κ β:Type}[DecidableEq κ]:List (κ×β)→κ→Option β
 | [],_=>none
 | (a,b)::m,k=>if a=k then some b else zc m k
def Gd {κ β:Type}[DecidableEq κ]:List (κ×β)→κ→β→List (κ×β)
 | [],k,x=>[(k,x)]
 | (a,b)::m,k,x=>if a=k then (k,x)::m else (a,b)::Gd m k x
def lg {κ β:Type}[DecidableEq κ] [qb κ] [Mh β] (μ:M):List MapEntry→List (κ×β)→Prop
 | [],m=>m=[]
 | e::es,m=>∃ k x t,m=(k,x)::t∧e.key=qb.key k∧Mh.wj μ e.val x∧lg μ es t
structure Wf {κ β:Type}[DecidableEq κ] [qb κ] [Mh β] (μ:M) (es:List MapEntry) (c:Nat) (m:List (κ×β)):Prop where
 Qf:lg μ es m
 lt:∀ e ∈ es,e.born<c
 inc:es.Pairwise fun a b=>a.born<b.born
variable {κ β:Type}[DecidableEq κ] [qb κ] [Mh β]
theorem lg.up (l:da μ I):∀ {es:List MapEntry}{m:List (κ×β)},lg μ es m→lg I es m
 | [],m,h=>by rw [lg] at h ⊢; exact h
 | e::es,m,h=>by
  rw [lg] at h ⊢;obtain ⟨k,x,t,a,b,c,d⟩:=h;exact ⟨k,x,t,a,b,Mh.up l c,lg.up l d⟩
theorem Wf.up {es:List MapEntry}{c:Nat}{m:List (κ×β)}(h:Wf μ es c m) (l:da μ I):Wf I es c m:=⟨h.Qf.up l,h.lt,h.inc⟩
theorem lg.keys:∀ {es:List MapEntry}{m:List (κ×β)},lg μ es m→∀ e ∈ es,dk (qb.bm (κ:=κ)) e.key
 | [],m,_,e,he=>by cases he
 | e::es,m,h,a,he=>by
  rw [lg] at h;obtain ⟨k,x,t,d,b,f,c⟩:=h;rcases List.mem_cons.1 he with rfl | he
  ·rw [b];exact qb.Re k
  ·exact lg.keys c a he
theorem lg.len:∀ {es:List MapEntry}{m:List (κ×β)},lg μ es m→es.length=m.length
 | [],m,h=>by rw [lg] at h; simp [h]
 | e::es,m,h=>by
  rw [lg] at h;obtain ⟨k,x,t,rfl,b,c,a⟩:=h;simp [lg.len a]
def vk (Qf:Value):List MapEntry→Option (Nat×Value)
 | []=>none
 | e::es=>if Sj Qf e.key then some (0,e.val) else (vk Qf es).map fun p=>(p.1+1,p.2)
theorem GC (Qf:Value):∀ (es:List MapEntry) (i:Nat),(((es.zipIdx i).find? fun e=>Sj Qf e.1.key).map fun e=>(e.2,e.1.val))=(vk Qf es).map fun p=>(p.1+i,p.2)
 | [],i=>rfl
 | e::es,i=>by
  rw [List.zipIdx_cons,List.find?_cons,vk];cases h:Sj Qf e.key with
  | true=>simp
  | false =>
   simp only [Bool.false_eq_true,if_false];rw [GC Qf es (i+1),Option.map_map];congr 1;funext p;simp;omega
theorem zt (es:List MapEntry) (Qf:Value):ml es Qf=vk Qf es:=by
 unfold ml;rw [GC];cases vk Qf es<;>simp
theorem lg.look:∀ {es:List MapEntry}{m:List (κ×β)},lg μ es m→∀ k:κ,(match vk (qb.key k) es with | none=>zc m k=none | some p=>∃ x,zc m k=some x∧Mh.wj μ p.2 x)
 | [],m,h,k=>by rw [lg] at h; subst h; rfl
 | e::es,m,h,k=>by
  rw [lg] at h;obtain ⟨d,x,t,rfl,f,g,i⟩:=h;rw [vk,zc,f,qb.eq];have a:=lg.look i k;by_cases b:k=d
  ·subst b;simp;exact g
  ·rw [if_neg (by simpa using b),if_neg (fun e=>b e.symm)];cases c:vk (qb.key k) es with
   | none=>rw [c] at a; exact a
   | some p=>rw [c] at a; exact a
theorem lg.get {es:List MapEntry}{m:List (κ×β)}(h:lg μ es m) (k:κ){z:Value}{zx:β}(b:Mh.wj μ z zx):Mh.wj μ (nk es (qb.key k) z) ((zc m k).getD zx):=by
 have:=h.look k;unfold nk;rw [zt];cases a:vk (qb.key k) es with
 | none=>rw [a] at this; simp only at this; rw [this]; exact b
 | some p=>rw [a] at this; obtain ⟨x,c,d⟩:=this; rw [c]; exact d
theorem lg.has {es:List MapEntry}{m:List (κ×β)}(h:lg μ es m) (k:κ):Uo es (qb.key k)=(zc m k).isSome:=by
 have:=h.look k;unfold Uo;rw [zt];cases a:vk (qb.key k) es with
 | none=>rw [a] at this; simp only at this; rw [this]; rfl
 | some p=>rw [a] at this; obtain ⟨x,b,c⟩:=this; rw [b]; rfl
theorem lg.put:∀ {es:List MapEntry}{m:List (κ×β)},lg μ es m→∀ (k:κ){v:Value}{x:β},Mh.wj μ v x→∀ c,lg μ (match vk (qb.key k) es with | some (i,_)=>es.modify i fun e=>{ e with key:=qb.key k,val:=v } | none=>es++[{ key:=qb.key k,val:=v,born:=c }]) (Gd m k x)
 | [],m,h,k,v,x,Wa,c=>by
  rw [lg] at h;subst h;exact ⟨k,x,[],rfl,rfl,Wa,rfl⟩
 | e::es,m,h,k,v,x,Wa,c=>by
  rw [lg] at h;obtain ⟨b,g,t,rfl,d,j,l⟩:=h;rw [vk,Gd,d,qb.eq];have a:=lg.put l k Wa c;by_cases f:k=b
  ·subst f;simp;exact ⟨k,x,t,rfl,rfl,Wa,l⟩
  ·rw [if_neg (by simpa using f),if_neg (fun e=>f e.symm)];cases n:vk (qb.key k) es with
   | none=>rw [n] at a; exact ⟨b,g,_,rfl,d,j,a⟩
   | some p=>rw [n] at a; exact ⟨b,g,_,rfl,d,j,a⟩
theorem Wf.put {es:List MapEntry}{c:Nat}{m:List (κ×β)}(h:Wf μ es c m) (k:κ){v:Value}{x:β}(Wa:Mh.wj μ v x):Wf μ (putAt es c (qb.key k) v) (lq es c (qb.key k)) (Gd m k x):=by
 have d:=h.Qf.put k Wa c;have ra:∀ i,(es.modify i fun e=>{ e with key:=qb.key k,val:=v }).map (·.born)=es.map (·.born):=by
  intro i;refine List.ext_getElem (by simp) fun j w y=>?_;simp only [List.getElem_map,List.getElem_modify];split<;>rfl
 have o:∀ l:List MapEntry,l.map (·.born)=es.map (·.born)→∀ e ∈ l,e.born<c:=fun l g e he=>by
  have hm:e.born ∈ es.map (·.born):=g ▸ List.mem_map_of_mem he;obtain ⟨q,r,f⟩:=List.mem_map.1 hm;rw [← f];exact h.lt q r
 have s:∀ l:List MapEntry,l.map (·.born)=es.map (·.born)→l.Pairwise fun a b=>a.born<b.born:=fun l g=>by
  have:(es.map (·.born)).Pairwise (·<·):=List.pairwise_map.2 h.inc;rw [← g] at this;exact List.pairwise_map.1 this
 unfold putAt lq;rw [zt];cases n:vk (qb.key k) es with
 | some p =>
  obtain ⟨i,u⟩:=p;rw [n] at d;exact ⟨d,o _ (ra i),s _ (ra i)⟩
 | none =>
  rw [n] at d;refine ⟨d,fun e he=>?_,?_⟩
  ·rcases List.mem_append.1 he with he | he
   ·exact Nat.lt_succ_of_lt (h.lt e he)
   ·simp at he;subst he;exact Nat.lt_succ_self _
  ·rw [List.pairwise_append];refine ⟨h.inc,by simp,fun a t b f=>?_⟩;simp at f;subst f;exact h.lt a t
theorem Wf.nil {c:Nat}:Wf (κ:=κ) (β:=β) μ [] c []:=⟨rfl,by simp,by simp⟩
def xk (μ:M) (b:Nat) (m:List (κ×β)):Prop:=∃ es c,(∀ w,μ w→w.heap[b]?=some (.map ⟨es⟩ c))∧Wf μ es c m
theorem xk.up {b:Nat}{m:List (κ×β)}(h:xk μ b m) (l:da μ I):xk I b m:=by
 obtain ⟨es,c,a,d⟩:=h;exact ⟨es,c,fun w hw=>a w (l w hw),d.up l⟩
theorem _root_.Go.Ab.Sep.Sr {b c:Nat}{es:List MapEntry}{m:List (κ×β)}(h:ia μ w0 w (.map b es c::rs)) (hm:Wf μ es c m):∃ I,da μ I∧xk I b m∧ia I w0 w rs :=
 ⟨_,fun _ hw=>hw.1,⟨es,c,fun _ hw=>hw.2,hm.up fun _ hw=>hw.1⟩,Sep.Wx (B:=fun w=>w.heap[b]?=some (.map ⟨es⟩ c)) h fun _ hw=>hw⟩
theorem pI {x y:Operand}{Re aa:TypeId}{z:Value}{b c:Nat}{es:List MapEntry}{m:List (κ×β)}{k:κ}{zx:β}(a:P.underlying T=some (.map Re aa)) (d:P.underlying Re=some (qb.bm (κ:=κ))) (e:cb fr x (.map (some b))) (f:cb fr y (qb.key k))
  (i:∀ w,(zeroValue aa).run P w=.ok z w) (j:Mh.wj μ z zx) (l:w.heap[b]?=some (.map ⟨es⟩ c)) (he:Wf μ es c m)
  (h:∀ v,Mh.wj μ v ((zc m k).getD zx)→hh fr dst (.tuple #[v,.bool (zc m k).isSome]) fun ua=>K ua ds w):Kd P (Oper.mk dst (.lookup T x y true) ty pos after g) fr ds w K Q:=by
 obtain ⟨ua,Qa⟩:=Ji fr dst (.tuple #[nk es (qb.key k) z,.bool (Uo es (qb.key k))]);refine jz a d e f (qb.Re k) i l he.Qf.keys Qa ?_;rw [he.Qf.has k] at Qa;exact h _ (he.Qf.get k j) ua Qa
theorem Hr {x y:Operand}{Re aa:TypeId}{z:Value}{b c:Nat}{es:List MapEntry}{m:List (κ×β)}{k:κ}{zx:β}(a:P.underlying T=some (.map Re aa)) (d:P.underlying Re=some (qb.bm (κ:=κ))) (e:cb fr x (.map (some b))) (f:cb fr y (qb.key k))
  (i:∀ w,(zeroValue aa).run P w=.ok z w) (j:Mh.wj μ z zx) (l:w.heap[b]?=some (.map ⟨es⟩ c)) (he:Wf μ es c m)
  (h:∀ v,Mh.wj μ v ((zc m k).getD zx)→hh fr dst v fun ua=>K ua ds w):Kd P (Oper.mk dst (.lookup T x y false) ty pos after g) fr ds w K Q:=by
 obtain ⟨ua,Qa⟩:=Ji fr dst (nk es (qb.key k) z);refine oI a d e f (qb.Re k) i l he.Qf.keys Qa ?_;exact h _ (he.Qf.get k j) ua Qa
theorem lg.zM {α:Type}[Ja α] [Mh α] (hrv:∀ (v:Value) (x:α),Mh.wj μ v x→fo μ v x){es:List MapEntry}{m:List (κ×α)}(h:lg μ es m) (k:κ):Ue μ (nk es (qb.key k) (.pointer none)) (zc m k):=by
 have:=h.look k;unfold nk;rw [zt];cases a:vk (qb.key k) es with
 | none=>rw [a] at this; simp only at this; rw [this]; rfl
 | some p=>rw [a] at this; obtain ⟨x,b,c⟩:=this; rw [b]; exact hrv _ _ c
theorem lC {α:Type}[Ja α] [Mh α] (hrv:∀ (v:Value) (x:α),Mh.wj μ v x→fo μ v x){x y:Operand}{Re aa:TypeId}{b c:Nat}{es:List MapEntry}{m:List (κ×α)}{k:κ}(a:P.underlying T=some (.map Re aa)) (d:P.underlying Re=some (qb.bm (κ:=κ))) (e:cb fr x (.map (some b))) (f:cb fr y (qb.key k))
  (i:∀ w,(zeroValue aa).run P w=.ok (.pointer none) w) (j:w.heap[b]?=some (.map ⟨es⟩ c)) (he:Wf μ es c m)
  (h:∀ v,Ue μ v (zc m k)→hh fr dst (.tuple #[v,.bool (zc m k).isSome]) fun ua=>K ua ds w):Kd P (Oper.mk dst (.lookup T x y true) ty pos after g) fr ds w K Q:=by
 obtain ⟨ua,Qa⟩:=Ji fr dst (.tuple #[nk es (qb.key k) (.pointer none),.bool (Uo es (qb.key k))]);refine jz a d e f (qb.Re k) i j he.Qf.keys Qa ?_;rw [he.Qf.has k] at Qa;exact h _ (he.Qf.zM hrv k) ua Qa
theorem Bu {aa:TypeId}{z:Value}(h:(P.info? aa).map (fun i=>i.zero)=some (some z)):∀ w,(zeroValue aa).run P w=.ok z w:=fun w=>by
 cases Pa:P.info? aa with
 | none=>rw [Pa] at h; cases h
 | some i =>
  rw [Pa] at h;simp only [Option.map_some,Option.some.injEq] at h;simp [zeroValue,typeInfo,Pa,h]
theorem cu {x y z:Operand}{Re aa:TypeId}{v:Value}{b c k:Nat}{es:List MapEntry}{kk:κ}{m:List (κ×β)}{xx:β}(d:P.underlying T=some (.map Re aa)) (e:P.underlying Re=some (qb.bm (κ:=κ))) (f:cb fr x (.map (some b))) (i:cb fr y (qb.key kk)) (j:cb fr z v) (Wa:Mh.wj μ v xx)
  (l:ia μ w0 w rs) (n:Vb rs k (.map b es c)) (he:Wf μ es c m)
  (Qa:Te fr dst undef ua) (h:∀ a c' w' rs',Wf μ a c' (Gd m kk xx)→uc rs k (.map b a c') rs'→ia μ w0 w' rs'→K ua ds w'):Kd P (Oper.mk dst (.mapUpdate T x y z) ty pos after g) fr ds w K Q :=
 TJ d e f i (qb.Re kk) j l n he.Qf.keys Qa fun w' rs'=>h _ _ w' rs' (he.put kk Wa)
theorem Yj {x y z:Operand}{Re aa:TypeId}{v:Value}{b c k:Nat}{es:List MapEntry}{kk:κ}{m:List (κ×β)}{xx:β}(d:P.underlying T=some (.map Re aa)) (e:P.underlying Re=some (qb.bm (κ:=κ))) (f:cb fr x (.map (some b))) (i:cb fr y (qb.key kk)) (j:cb fr z v) (Wa:Mh.wj μ v xx)
  (l:ia μ w0 w rs) (n:Vb rs k (.map b es c)) (he:Wf μ es c m)
  (Qa:Te fr dst undef ua) (h:∀ a c' w' rs',Wf μ a c' (Gd m kk xx)→uc rs k (.map b a c') rs'→ia μ w0 w' rs'→K ua ds w'):Kd P (Oper.mk dst (.insert T x y z) ty pos after g) fr ds w K Q :=
 ⟨fun o p=>(cu (dst:=dst) (ty:=ty) (pos:=pos) (after:=after) (g:=g) d e f i j Wa l n he Qa h).out o p⟩
theorem UJ {x:Operand}{Re aa:TypeId}{b c:Nat}{es:List MapEntry}{m:List (κ×β)}(a:P.underlying T=some (.map Re aa)) (d:cb fr x (.map (some b))) (e:w.heap[b]?=some (.map ⟨es⟩ c)) (he:Wf μ es c m)
  (f:Te fr dst (.int .i64 m.length) ua) (h:K ua ds w):Kd P (Oper.mk dst (.call { callee:=.builtin .len,args:=#[x],argTypes:=#[T] }) ty pos after g) fr ds w K Q:=by
 refine Qh (w':=w) ?_ f h;have:=he.Qf.len;simp [execOp,resolve,invoke,builtin,Builtin.len_,goInt,d ds,run_underlying a,getObj,Sem.run,e,Result.andThen,this]
end
end Go.jc
namespace Go.Ab
abbrev Tg (m:List qb):List qb:=.k::m
abbrev Wd (s:Nat) (m:List qb):List qb:=.o s::m
theorem pe {m:List qb}{a0:Value}{l a:List Value}(h:Be m l a):Be (Tg m) (a0::l) (a0::a):=(.k h)
theorem ib {m:List qb}{s:Nat}{a0 b:Value}{l a:List Value}(h:Be m l a):Be (Wd s m) (a0::l) (b::a):=(.o h)
theorem ih {t:Nat→Value}{m:List qb}{a0:Value}{l a:List Value}(h:Pe t m l a):Pe t (Tg m) (a0::l) (a0::a):=(mk h)
theorem ae {t:Nat→Value}{m:List qb}{s:Nat}{a0:Value}{l a:List Value}(h:Pe t m l a):Pe t (Wd s m) (a0::l) (t s::a):=(ic h)
abbrev cf (m:List qb):List qb:=.k::.k::m
abbrev ag (s:Nat) (m:List qb):List qb:=.o s::.o (s+1)::m
theorem Nb {m:List qb}{a0 pa:Value}{l a:List Value}(h:Be m l a):Be (cf m) (a0::pa::l) (a0::pa::a):=(.k (.k h))
theorem Zc {m:List qb}{s:Nat}{a0 pa b V:Value}{l a:List Value}(h:Be m l a):Be (ag s m) (a0::pa::l) (b::V::a):=(.o (.o h))
theorem pf {t:Nat→Value}{m:List qb}{a0 pa:Value}{l a:List Value}(h:Pe t m l a):Pe t (cf m) (a0::pa::l) (a0::pa::a):=(mk (mk h))
theorem ig {t:Nat→Value}{m:List qb}{s:Nat}{a0 pa:Value}{l a:List Value}(h:Pe t m l a):Pe t (ag s m) (a0::pa::l) (t s::t (s+1)::a):=(ic (ic h))
abbrev Zg (m:List qb):List qb:=.k::.k::.k::m
abbrev fi (s:Nat) (m:List qb):List qb:=.o s::.o (s+1)::.o (s+2)::m
theorem od {m:List qb}{a0 pa a2:Value}{l a:List Value}(h:Be m l a):Be (Zg m) (a0::pa::a2::l) (a0::pa::a2::a):=(.k (.k (.k h)))
theorem bg {m:List qb}{s:Nat}{a0 pa a2 b V Ke:Value}{l a:List Value}(h:Be m l a):Be (fi s m) (a0::pa::a2::l) (b::V::Ke::a):=(.o (.o (.o h)))
theorem oh {t:Nat→Value}{m:List qb}{a0 pa a2:Value}{l a:List Value}(h:Pe t m l a):Pe t (Zg m) (a0::pa::a2::l) (a0::pa::a2::a):=(mk (mk (mk h)))
theorem Bi {t:Nat→Value}{m:List qb}{s:Nat}{a0 pa a2:Value}{l a:List Value}(h:Pe t m l a):Pe t (fi s m) (a0::pa::a2::l) (t s::t (s+1)::t (s+2)::a):=(ic (ic (ic h)))
abbrev ah (m:List qb):List qb:=.k::.k::.k::.k::m
abbrev Uh (s:Nat) (m:List qb):List qb:=.o s::.o (s+1)::.o (s+2)::.o (s+3)::m
theorem Td {m:List qb}{a0 pa a2 a3:Value}{l a:List Value}(h:Be m l a):Be (ah m) (a0::pa::a2::a3::l) (a0::pa::a2::a3::a):=(.k (.k (.k (.k h))))
theorem vd {m:List qb}{s:Nat}{a0 pa a2 a3 b V Ke eb:Value}{l a:List Value}(h:Be m l a):Be (Uh s m) (a0::pa::a2::a3::l) (b::V::Ke::eb::a):=(.o (.o (.o (.o h))))
theorem ph {t:Nat→Value}{m:List qb}{a0 pa a2 a3:Value}{l a:List Value}(h:Pe t m l a):Pe t (ah m) (a0::pa::a2::a3::l) (a0::pa::a2::a3::a):=(mk (mk (mk (mk h))))
theorem ri {t:Nat→Value}{m:List qb}{s:Nat}{a0 pa a2 a3:Value}{l a:List Value}(h:Pe t m l a):Pe t (Uh s m) (a0::pa::a2::a3::l) (t s::t (s+1)::t (s+2)::t (s+3)::a):=(ic (ic (ic (ic h))))
abbrev Cg (m:List qb):List qb:=.k::.k::.k::.k::.k::m
abbrev hn (s:Nat) (m:List qb):List qb:=.o s::.o (s+1)::.o (s+2)::.o (s+3)::.o (s+4)::m
theorem Od {m:List qb}{a0 pa a2 a3 a4:Value}{l a:List Value}(h:Be m l a):Be (Cg m) (a0::pa::a2::a3::a4::l) (a0::pa::a2::a3::a4::a):=(.k (.k (.k (.k (.k h)))))
theorem Kk {m:List qb}{s:Nat}{a0 pa a2 a3 a4 b V Ke eb sf:Value}{l a:List Value}(h:Be m l a):Be (hn s m) (a0::pa::a2::a3::a4::l) (b::V::Ke::eb::sf::a):=(.o (.o (.o (.o (.o h)))))
theorem Lg {t:Nat→Value}{m:List qb}{a0 pa a2 a3 a4:Value}{l a:List Value}(h:Pe t m l a):Pe t (Cg m) (a0::pa::a2::a3::a4::l) (a0::pa::a2::a3::a4::a):=(mk (mk (mk (mk (mk h)))))
theorem lp {t:Nat→Value}{m:List qb}{s:Nat}{a0 pa a2 a3 a4:Value}{l a:List Value}(h:Pe t m l a):Pe t (hn s m) (a0::pa::a2::a3::a4::l) (t s::t (s+1)::t (s+2)::t (s+3)::t (s+4)::a):=(ic (ic (ic (ic (ic h)))))
abbrev Wi (m:List qb):List qb:=.k::.k::.k::.k::.k::.k::m
abbrev Hj (s:Nat) (m:List qb):List qb:=.o s::.o (s+1)::.o (s+2)::.o (s+3)::.o (s+4)::.o (s+5)::m
theorem Je {m:List qb}{a0 pa a2 a3 a4 a5:Value}{l a:List Value}(h:Be m l a):Be (Wi m) (a0::pa::a2::a3::a4::a5::l) (a0::pa::a2::a3::a4::a5::a):=(.k (.k (.k (.k (.k (.k h))))))
theorem qf {m:List qb}{s:Nat}{a0 pa a2 a3 a4 a5 b V Ke eb sf c:Value}{l a:List Value}(h:Be m l a):Be (Hj s m) (a0::pa::a2::a3::a4::a5::l) (b::V::Ke::eb::sf::c::a):=(.o (.o (.o (.o (.o (.o h))))))
theorem pj {t:Nat→Value}{m:List qb}{a0 pa a2 a3 a4 a5:Value}{l a:List Value}(h:Pe t m l a):Pe t (Wi m) (a0::pa::a2::a3::a4::a5::l) (a0::pa::a2::a3::a4::a5::a):=(mk (mk (mk (mk (mk (mk h))))))
theorem fk {t:Nat→Value}{m:List qb}{s:Nat}{a0 pa a2 a3 a4 a5:Value}{l a:List Value}(h:Pe t m l a):Pe t (Hj s m) (a0::pa::a2::a3::a4::a5::l) (t s::t (s+1)::t (s+2)::t (s+3)::t (s+4)::t (s+5)::a):=(ic (ic (ic (ic (ic (ic h))))))
abbrev Xi (m:List qb):List qb:=.k::.k::.k::.k::.k::.k::.k::m
abbrev Ij (s:Nat) (m:List qb):List qb:=.o s::.o (s+1)::.o (s+2)::.o (s+3)::.o (s+4)::.o (s+5)::.o (s+6)::m
theorem og {m:List qb}{a0 pa a2 a3 a4 a5 Eb:Value}{l a:List Value}(h:Be m l a):Be (Xi m) (a0::pa::a2::a3::a4::a5::Eb::l) (a0::pa::a2::a3::a4::a5::Eb::a):=(.k (.k (.k (.k (.k (.k (.k h)))))))
theorem Jh {m:List qb}{s:Nat}{a0 pa a2 a3 a4 a5 Eb b V Ke eb sf c Jf:Value}{l a:List Value}(h:Be m l a):Be (Ij s m) (a0::pa::a2::a3::a4::a5::Eb::l) (b::V::Ke::eb::sf::c::Jf::a):=(.o (.o (.o (.o (.o (.o (.o h)))))))
theorem qj {t:Nat→Value}{m:List qb}{a0 pa a2 a3 a4 a5 Eb:Value}{l a:List Value}(h:Pe t m l a):Pe t (Xi m) (a0::pa::a2::a3::a4::a5::Eb::l) (a0::pa::a2::a3::a4::a5::Eb::a):=(mk (mk (mk (mk (mk (mk (mk h)))))))
theorem gk {t:Nat→Value}{m:List qb}{s:Nat}{a0 pa a2 a3 a4 a5 Eb:Value}{l a:List Value}(h:Pe t m l a):Pe t (Ij s m) (a0::pa::a2::a3::a4::a5::Eb::l) (t s::t (s+1)::t (s+2)::t (s+3)::t (s+4)::t (s+5)::t (s+6)::a):=(ic (ic (ic (ic (ic (ic (ic h)))))))
abbrev rj (m:List qb):List qb:=.k::.k::.k::.k::.k::.k::.k::.k::m
abbrev yl (s:Nat) (m:List qb):List qb:=.o s::.o (s+1)::.o (s+2)::.o (s+3)::.o (s+4)::.o (s+5)::.o (s+6)::.o (s+7)::m
theorem Fg {m:List qb}{a0 pa a2 a3 a4 a5 Eb dc:Value}{l a:List Value}(h:Be m l a):Be (rj m) (a0::pa::a2::a3::a4::a5::Eb::dc::l) (a0::pa::a2::a3::a4::a5::Eb::dc::a):=(.k (.k (.k (.k (.k (.k (.k (.k h))))))))
theorem Ci {m:List qb}{s:Nat}{a0 pa a2 a3 a4 a5 Eb dc b V Ke eb sf c Jf lh:Value}{l a:List Value}(h:Be m l a):Be (yl s m) (a0::pa::a2::a3::a4::a5::Eb::dc::l) (b::V::Ke::eb::sf::c::Jf::lh::a):=(.o (.o (.o (.o (.o (.o (.o (.o h))))))))
theorem Tj {t:Nat→Value}{m:List qb}{a0 pa a2 a3 a4 a5 Eb dc:Value}{l a:List Value}(h:Pe t m l a):Pe t (rj m) (a0::pa::a2::a3::a4::a5::Eb::dc::l) (a0::pa::a2::a3::a4::a5::Eb::dc::a):=(mk (mk (mk (mk (mk (mk (mk (mk h))))))))
theorem ym {t:Nat→Value}{m:List qb}{s:Nat}{a0 pa a2 a3 a4 a5 Eb dc:Value}{l a:List Value}(h:Pe t m l a):Pe t (yl s m) (a0::pa::a2::a3::a4::a5::Eb::dc::l) (t s::t (s+1)::t (s+2)::t (s+3)::t (s+4)::t (s+5)::t (s+6)::t (s+7)::a):=(ic (ic (ic (ic (ic (ic (ic (ic h))))))))
abbrev Yi (m:List qb):List qb:=.k::.k::.k::.k::.k::.k::.k::.k::.k::m
abbrev Lk (s:Nat) (m:List qb):List qb:=.o s::.o (s+1)::.o (s+2)::.o (s+3)::.o (s+4)::.o (s+5)::.o (s+6)::.o (s+7)::.o (s+8)::m
theorem tg {m:List qb}{a0 pa a2 a3 a4 a5 Eb dc jb:Value}{l a:List Value}(h:Be m l a):Be (Yi m) (a0::pa::a2::a3::a4::a5::Eb::dc::jb::l) (a0::pa::a2::a3::a4::a5::Eb::dc::jb::a):=(.k (.k (.k (.k (.k (.k (.k (.k (.k h)))))))))
theorem Kh {m:List qb}{s:Nat}{a0 pa a2 a3 a4 a5 Eb dc jb b V Ke eb sf c Jf lh d:Value}{l a:List Value}(h:Be m l a):Be (Lk s m) (a0::pa::a2::a3::a4::a5::Eb::dc::jb::l) (b::V::Ke::eb::sf::c::Jf::lh::d::a):=(.o (.o (.o (.o (.o (.o (.o (.o (.o h)))))))))
theorem sj {t:Nat→Value}{m:List qb}{a0 pa a2 a3 a4 a5 Eb dc jb:Value}{l a:List Value}(h:Pe t m l a):Pe t (Yi m) (a0::pa::a2::a3::a4::a5::Eb::dc::jb::l) (a0::pa::a2::a3::a4::a5::Eb::dc::jb::a):=(mk (mk (mk (mk (mk (mk (mk (mk (mk h)))))))))
theorem zl {t:Nat→Value}{m:List qb}{s:Nat}{a0 pa a2 a3 a4 a5 Eb dc jb:Value}{l a:List Value}(h:Pe t m l a):Pe t (Lk s m) (a0::pa::a2::a3::a4::a5::Eb::dc::jb::l) (t s::t (s+1)::t (s+2)::t (s+3)::t (s+4)::t (s+5)::t (s+6)::t (s+7)::t (s+8)::a):=(ic (ic (ic (ic (ic (ic (ic (ic (ic h)))))))))
abbrev xe (m:List qb):List qb:=.k::.k::.k::.k::.k::.k::.k::.k::.k::.k::m
abbrev Nd (s:Nat) (m:List qb):List qb:=.o s::.o (s+1)::.o (s+2)::.o (s+3)::.o (s+4)::.o (s+5)::.o (s+6)::.o (s+7)::.o (s+8)::.o (s+9)::m
theorem pc {m:List qb}{a0 pa a2 a3 a4 a5 Eb dc jb a9:Value}{l a:List Value}(h:Be m l a):Be (xe m) (a0::pa::a2::a3::a4::a5::Eb::dc::jb::a9::l) (a0::pa::a2::a3::a4::a5::Eb::dc::jb::a9::a):=(.k (.k (.k (.k (.k (.k (.k (.k (.k (.k h))))))))))
theorem nb {m:List qb}{s:Nat}{a0 pa a2 a3 a4 a5 Eb dc jb a9 b V Ke eb sf c Jf lh d cd:Value}{l a:List Value}(h:Be m l a):Be (Nd s m) (a0::pa::a2::a3::a4::a5::Eb::dc::jb::a9::l) (b::V::Ke::eb::sf::c::Jf::lh::d::cd::a):=(.o (.o (.o (.o (.o (.o (.o (.o (.o (.o h))))))))))
theorem Ge {t:Nat→Value}{m:List qb}{a0 pa a2 a3 a4 a5 Eb dc jb a9:Value}{l a:List Value}(h:Pe t m l a):Pe t (xe m) (a0::pa::a2::a3::a4::a5::Eb::dc::jb::a9::l) (a0::pa::a2::a3::a4::a5::Eb::dc::jb::a9::a):=(mk (mk (mk (mk (mk (mk (mk (mk (mk (mk h))))))))))
theorem Sd {t:Nat→Value}{m:List qb}{s:Nat}{a0 pa a2 a3 a4 a5 Eb dc jb a9:Value}{l a:List Value}(h:Pe t m l a):Pe t (Nd s m) (a0::pa::a2::a3::a4::a5::Eb::dc::jb::a9::l) (t s::t (s+1)::t (s+2)::t (s+3)::t (s+4)::t (s+5)::t (s+6)::t (s+7)::t (s+8)::t (s+9)::a):=(ic (ic (ic (ic (ic (ic (ic (ic (ic (ic h))))))))))
abbrev Sc (m:List qb):List qb:=.k::.k::.k::.k::.k::.k::.k::.k::.k::.k::.k::.k::.k::.k::.k::.k::.k::.k::.k::.k::m
abbrev nf (s:Nat) (m:List qb):List qb:=.o s::.o (s+1)::.o (s+2)::.o (s+3)::.o (s+4)::.o (s+5)::.o (s+6)::.o (s+7)::.o (s+8)::.o (s+9)::.o (s+10)::.o (s+11)::.o (s+12)::.o (s+13)::.o (s+14)::.o (s+15)::.o (s+16)::.o (s+17)::.o (s+18)::.o (s+19)::m
theorem db {m:List qb}{a0 pa a2 a3 a4 a5 Eb dc jb a9 Bd Dc a12 a Kc b c d e f:Value}{l g:List Value}(h:Be m l g):Be (Sc m) (a0::pa::a2::a3::a4::a5::Eb::dc::jb::a9::Bd::Dc::a12::a::Kc::b::c::d::e::f::l) (a0::pa::a2::a3::a4::a5::Eb::dc::jb::a9::Bd::Dc::a12::a::Kc::b::c::d::e::f::g):=(.k (.k (.k (.k (.k (.k (.k (.k (.k (.k (.k (.k (.k (.k (.k (.k (.k (.k (.k (.k h))))))))))))))))))))
theorem ub {m:List qb}{s:Nat}{a0 pa a2 a3 a4 a5 Eb dc jb a9 Bd Dc a12 b Kc c d e f g i V Ke eb sf j Jf lh k cd n p q bh r t u v Mg nd:Value}{l a:List Value}(h:Be m l a):Be (nf s m) (a0::pa::a2::a3::a4::a5::Eb::dc::jb::a9::Bd::Dc::a12::b::Kc::c::d::e::f::g::l) (i::V::Ke::eb::sf::j::Jf::lh::k::cd::n::p::q::bh::r::t::u::v::Mg::nd::a):=(.o (.o (.o (.o (.o (.o (.o (.o (.o (.o (.o (.o (.o (.o (.o (.o (.o (.o (.o (.o h))))))))))))))))))))
theorem Vc {t:Nat→Value}{m:List qb}{a0 pa a2 a3 a4 a5 Eb dc jb a9 Bd Dc a12 a Kc b c d e f:Value}{l g:List Value}(h:Pe t m l g):Pe t (Sc m) (a0::pa::a2::a3::a4::a5::Eb::dc::jb::a9::Bd::Dc::a12::a::Kc::b::c::d::e::f::l) (a0::pa::a2::a3::a4::a5::Eb::dc::jb::a9::Bd::Dc::a12::a::Kc::b::c::d::e::f::g):=(mk (mk (mk (mk (mk (mk (mk (mk (mk (mk (mk (mk (mk (mk (mk (mk (mk (mk (mk (mk h))))))))))))))))))))
theorem Bf {t:Nat→Value}{m:List qb}{s:Nat}{a0 pa a2 a3 a4 a5 Eb dc jb a9 Bd Dc a12 b Kc c d e f g:Value}{l a:List Value}(h:Pe t m l a):Pe t (nf s m) (a0::pa::a2::a3::a4::a5::Eb::dc::jb::a9::Bd::Dc::a12::b::Kc::c::d::e::f::g::l) (t s::t (s+1)::t (s+2)::t (s+3)::t (s+4)::t (s+5)::t (s+6)::t (s+7)::t (s+8)::t (s+9)::t (s+10)::t (s+11)::t (s+12)::t (s+13)::t (s+14)::t (s+15)::t (s+16)::t (s+17)::t (s+18)::t (s+19)::a):=(ic (ic (ic (ic (ic (ic (ic (ic (ic (ic (ic (ic (ic (ic (ic (ic (ic (ic (ic (ic h))))))))))))))))))))
abbrev Xe (m:List qb):List qb:=.k::.k::.k::.k::.k::.k::.k::.k::.k::.k::.k::.k::.k::.k::.k::.k::.k::.k::.k::.k::.k::.k::.k::.k::.k::.k::.k::.k::.k::.k::.k::.k::.k::.k::.k::.k::.k::.k::.k::.k::.k::.k::.k::.k::.k::.k::.k::.k::.k::.k::m
abbrev Ej (s:Nat) (m:List qb):List qb:=.o s::.o (s+1)::.o (s+2)::.o (s+3)::.o (s+4)::.o (s+5)::.o (s+6)::.o (s+7)::.o (s+8)::.o (s+9)::.o (s+10)::.o (s+11)::.o (s+12)::.o (s+13)::.o (s+14)::.o (s+15)::.o (s+16)::.o (s+17)::.o (s+18)::.o (s+19)::.o (s+20)::.o (s+21)::.o (s+22)::.o (s+23)::.o (s+24)::.o (s+25)::.o (s+26)::.o (s+27)::.o (s+28)::.o (s+29)::.o (s+30)::.o (s+31)::.o (s+32)::.o (s+33)::.o (s+34)::.o (s+35)::.o (s+36)::.o (s+37)::.o (s+38)::.o (s+39)::.o (s+40)::.o (s+41)::.o (s+42)::.o (s+43)::.o (s+44)::.o (s+45)::.o (s+46)::.o (s+47)::.o (s+48)::.o (s+49)::m
theorem oc {m:List qb}{a0 pa a2 a3 a4 a5 Eb dc jb a9 Bd Dc a12 a Kc b c d e f a20 a21 a22 a23 a24 a25 a26 g a28 i j a31 n o p q r a37 s t a40 u v w x y a46 z A a49:Value}{l B:List Value}(h:Be m l B):Be (Xe m) (a0::pa::a2::a3::a4::a5::Eb::dc::jb::a9::Bd::Dc::a12::a::Kc::b::c::d::e::f::a20::a21::a22::a23::a24::a25::a26::g::a28::i::j::a31::n::o::p::q::r::a37::s::t::a40::u::v::w::x::y::a46::z::A::a49::l) (a0::pa::a2::a3::a4::a5::Eb::dc::jb::a9::Bd::Dc::a12::a::Kc::b::c::d::e::f::a20::a21::a22::a23::a24::a25::a26::g::a28::i::j::a31::n::o::p::q::r::a37::s::t::a40::u::v::w::x::y::a46::z::A::a49::B):=(.k (.k (.k (.k (.k (.k (.k (.k (.k (.k (.k (.k (.k (.k (.k (.k (.k (.k (.k (.k (.k (.k (.k (.k (.k (.k (.k (.k (.k (.k (.k (.k (.k (.k (.k (.k (.k (.k (.k (.k (.k (.k (.k (.k (.k (.k (.k (.k (.k (.k h))))))))))))))))))))))))))))))))))))))))))))))))))
theorem Kb {m:List qb}{s:Nat}{a0 pa a2 a3 a4 a5 Eb dc jb a9 Bd Dc a12 b Kc c d e f g a20 a21 a22 a23 a24 a25 a26 i a28 j k a31 n p q r t a37 u v a40 w x y z A a46 B C a49 D V Ke eb sf F Jf lh G cd H K L bh M N O P Mg nd Q Di R S Ef yg T U W X Y Ff Z gc hc lc rc fd id md rd td wd Fd Id be ce ge he le:Value}{l a:List Value}(h:Be m l a):Be (Ej s m) (a0::pa::a2::a3::a4::a5::Eb::dc::jb::a9::Bd::Dc::a12::b::Kc::c::d::e::f::g::a20::a21::a22::a23::a24::a25::a26::i::a28::j::k::a31::n::p::q::r::t::a37::u::v::a40::w::x::y::z::A::a46::B::C::a49::l) (D::V::Ke::eb::sf::F::Jf::lh::G::cd::H::K::L::bh::M::N::O::P::Mg::nd::Q::Di::R::S::Ef::yg::T::U::W::X::Y::Ff::Z::gc::hc::lc::rc::fd::id::md::rd::td::wd::Fd::Id::be::ce::ge::he::le::a):=(.o (.o (.o (.o (.o (.o (.o (.o (.o (.o (.o (.o (.o (.o (.o (.o (.o (.o (.o (.o (.o (.o (.o (.o (.o (.o (.o (.o (.o (.o (.o (.o (.o (.o (.o (.o (.o (.o (.o (.o (.o (.o (.o (.o (.o (.o (.o (.o (.o (.o h))))))))))))))))))))))))))))))))))))))))))))))))))
theorem hf {t:Nat→Value}{m:List qb}{a0 pa a2 a3 a4 a5 Eb dc jb a9 Bd Dc a12 a Kc b c d e f a20 a21 a22 a23 a24 a25 a26 g a28 i j a31 k n o p q a37 r s a40 u v w x y a46 z A a49:Value}{l B:List Value}(h:Pe t m l B):Pe t (Xe m) (a0::pa::a2::a3::a4::a5::Eb::dc::jb::a9::Bd::Dc::a12::a::Kc::b::c::d::e::f::a20::a21::a22::a23::a24::a25::a26::g::a28::i::j::a31::k::n::o::p::q::a37::r::s::a40::u::v::w::x::y::a46::z::A::a49::l) (a0::pa::a2::a3::a4::a5::Eb::dc::jb::a9::Bd::Dc::a12::a::Kc::b::c::d::e::f::a20::a21::a22::a23::a24::a25::a26::g::a28::i::j::a31::k::n::o::p::q::a37::r::s::a40::u::v::w::x::y::a46::z::A::a49::B):=(mk (mk (mk (mk (mk (mk (mk (mk (mk (mk (mk (mk (mk (mk (mk (mk (mk (mk (mk (mk (mk (mk (mk (mk (mk (mk (mk (mk (mk (mk (mk (mk (mk (mk (mk (mk (mk (mk (mk (mk (mk (mk (mk (mk (mk (mk (mk (mk (mk (mk h))))))))))))))))))))))))))))))))))))))))))))))))))
theorem ek {t:Nat→Value}{m:List qb}{s:Nat}{a0 pa a2 a3 a4 a5 Eb dc jb a9 Bd Dc a12 b Kc c d e f g a20 a21 a22 a23 a24 a25 a26 i a28 j k a31 n o p q r a37 u v a40 w x y z A a46 B C a49:Value}{l a:List Value}(h:Pe t m l a):Pe t (Ej s m) (a0::pa::a2::a3::a4::a5::Eb::dc::jb::a9::Bd::Dc::a12::b::Kc::c::d::e::f::g::a20::a21::a22::a23::a24::a25::a26::i::a28::j::k::a31::n::o::p::q::r::a37::u::v::a40::w::x::y::z::A::a46::B::C::a49::l) (t s::t (s+1)::t (s+2)::t (s+3)::t (s+4)::t (s+5)::t (s+6)::t (s+7)::t (s+8)::t (s+9)::t (s+10)::t (s+11)::t (s+12)::t (s+13)::t (s+14)::t (s+15)::t (s+16)::t (s+17)::t (s+18)::t (s+19)::t (s+20)::t (s+21)::t (s+22)::t (s+23)::t (s+24)::t (s+25)::t (s+26)::t (s+27)::t (s+28)::t (s+29)::t (s+30)::t (s+31)::t (s+32)::t (s+33)::t (s+34)::t (s+35)::t (s+36)::t (s+37)::t (s+38)::t (s+39)::t (s+40)::t (s+41)::t (s+42)::t (s+43)::t (s+44)::t (s+45)::t (s+46)::t (s+47)::t (s+48)::t (s+49)::a):=(ic (ic (ic (ic (ic (ic (ic (ic (ic (ic (ic (ic (ic (ic (ic (ic (ic (ic (ic (ic (ic (ic (ic (ic (ic (ic (ic (ic (ic (ic (ic (ic (ic (ic (ic (ic (ic (ic (ic (ic (ic (ic (ic (ic (ic (ic (ic (ic (ic (ic h))))))))))))))))))))))))))))))))))))))))))))))))))
theorem xa {m:List qb}{v a:Value}{l b:List Value}(h:Be m l b):Be (.i v::m) (a::l) (v::b):=.i h
theorem qa {l:List Value}:Be [] l l:=.z
end Go.Ab
namespace Go.Ab
open Go.RowKit
section
variable {P:Program}{Q:Exit→Act→World→Prop}{ops:Array Oper}{fr ua:List Value}{ds:List Deferred}{w:World}
theorem lv (ops:Array Oper) (fr:List Value) (ds:List Deferred) (j:Nat):yielded ops (F fr ds).tmps j=match (ops[j]?).bind (·.dst) with | some s=>(match (F fr ds).eval (.tmp s) with | .bool b=>some b | _=>none) | none=>none:=by
 unfold yielded;cases h:(ops[j]?).bind (·.dst) with
 | none=>simp
 | some s =>
  simp only [Option.bind_some,F,Act.eval];cases a:(⟨fr⟩:Array Value)[s]? with
  | none =>
   have:(⟨fr⟩:Array Value).getD s undef=undef:=by simp [Array.getD_eq_getD_getElem?,a]
   first
    | (simp [a,undef]; done)
    | (rw [this]; simp [undef])
  | some v =>
   have:(⟨fr⟩:Array Value).getD s undef=v:=by simp [Array.getD_eq_getD_getElem?,a]
   first
    | (simp [a]; done)
    | (rw [this]; cases v <;> rfl)
theorem wanted_put {o p:Oper}{fr:List Value}{ds ds':List Deferred}{g:List Value→List Value}(g3:∀ (y:Operand),(∀ e,p.dst=some e→Zp y≠some e)→(F (g fr) ds).eval y=(F fr ds).eval y) (c:∀ e,p.dst=some e→(reads ops o).contains e=false) :
  Region.wanted o (yielded ops (F (g fr) ds').tmps)=Region.wanted o (yielded ops (F fr ds').tmps):=by
 have Ib:(F (g fr) ds').tmps=(F (g fr) ds).tmps:=rfl;have ra:(F fr ds').tmps=(F fr ds).tmps:=rfl;rw [Ib,ra];unfold Region.wanted;cases d:o.guard with
 | none=>rfl
 | some f =>
  obtain ⟨j,b⟩:=f;simp only;have:yielded ops (F (g fr) ds).tmps j=yielded ops (F fr ds).tmps j:=by
   rw [lv,lv];cases hs:(ops[j]?).bind (·.dst) with
   | none=>rfl
   | some s =>
    simp only;rw [g3 (.tmp s) fun e he a=>by
     simp [Zp] at a;subst a;have:=c s he;unfold reads at this;rw [d] at this;simp [hs] at this]
  first
   | rw [this]
   | simp [this]
theorem IA {rd:Bool}{i d:Nat}(s:hi Q d){o:Oper}{v:Value}(z:ops[i]?=some o) (Qa:o.dst=some d){wt:Bool}(A:wt=false→v=undef){w0:World} :
  ∀ (a b:List Nat) (fr:List Value) (ds:List Deferred) (w:World),
   (∀ j ∈ a,match ops[j]? with
    | some p=>Ck p.op=true∧(reads ops p).contains d=false∧p.dst≠some d∧(∀ e,p.dst=some e→(reads ops o).contains e=false)∧(rd=true→quiet p.op=true)
    | none=>True) →
   (rd=true→w=w0)→Ck o.op=true→Region.wanted o (yielded ops (F fr ds).tmps)=wt →
   (wt=true→∀ ds w,(rd=true→w=w0)→(execOp (F fr ds).eval o).run P w=.ok (.value v) w) →
   wpOps P ops Q (a++b) (F (fr.set d v) ds) w→wpOps P ops Q (a++i::b) (F fr ds) w
 | [],b,fr,ds,w,_,hw,t,c,u,h=>by
  simp only [List.nil_append] at h ⊢;simp only [wpOps,z];cases wt with
  | true =>
   rw [if_pos c];left;unfold Oper.wp;rw [u rfl ds w hw,Oper.upon_value,Qa];rw [show (F fr ds).put (some d) v=F (fr.set d v) ds from ha rfl ds];exact h
  | false =>
   rw [if_neg (by rw [c];simp),Qa,← A rfl];rw [show (F fr ds).put (some d) v=F (fr.set d v) ds from ha rfl ds];exact h
 | j::a,b,fr,ds,w,N,hw,t,c,u,h=>by
  have B:=N j (by simp);have O:∀ k ∈ a,_:=fun k l=>N k (by simp [l]);simp only [List.cons_append,wpOps] at h ⊢;cases R:ops[j]? with
  | none =>
   rw [R] at h;simp only at h ⊢;exact IA s z Qa A a b fr ds w O hw t c u h
  | some p =>
   rw [R] at h B;simp only at h B ⊢;obtain ⟨S,C,W,T,D⟩:=B;rw [Hy (fr:=fr) (v:=v) (ds:=ds) (ds':=ds) C] at h;have key:∀ (x:Value) (w':World) (ds':List Deferred),(rd=true→w'=w0)→wpOps P ops Q (a++b) ((F (fr.set d v) ds').put p.dst x) w'→wpOps P ops Q (a++i::b) ((F fr ds').put p.dst x) w':=by
    intro x w' ds' m l;obtain ⟨g,g1,g2,g3⟩:=put_eq fr ds' p.dst x;have X:=wanted_put (ops:=ops) (o:=o) (p:=p) (ds':=ds') (fun y G=>g3 fr y ds' ds' G) T;rw [g1] at l ⊢;rw [g2 _ _ _ W] at l;refine IA s z Qa A a b (g fr) ds' w' O m t (X.trans c) (fun Y n Z gc=>?_) l;rw [show execOp (F (g fr) n).eval o=execOp (F fr n).eval o from execOp_congr o t fun y G=>g3 fr y n n fun e he hs=>by
     exact pw (T e he) y G hs]
    exact u Y n Z gc
   by_cases U:Region.wanted p (yielded ops (F fr ds).tmps)=true
   ·rw [if_pos U] at h ⊢;rcases h with h | h
    ·left;unfold Oper.wp at h ⊢;rw [yr (ds':=ds) S C] at h;cases q:(execOp (F fr ds).eval p).run P w with
     | halt e w' =>
      rw [q] at h;cases e<;>first | exact h | exact s _ _ _ _ _ h
     | ok r w' =>
      rw [q] at h;have m:rd=true→w'=w0:=fun e=>(jr (D e) q).1.trans (hw e);cases r with
      | value x=>exact key x w' ds m h
      | skip=>exact key undef w' ds m h
      | defer hc=>exact key undef w' (hc::ds) m h
      | enter f args =>
       have H:rd=true→False:=fun e=>by obtain ⟨_,x,K⟩:=jr (D e) q;cases K
       rw [Oper.upon_enter] at h ⊢;refine Calls.mono h fun e L he=>?_;cases e with
       | returned x=>exact key x L ds (fun e=>(H e).elim) he
       | panicked lc=>exact s _ _ _ _ _ he
       | outgrown=>exact he
      | row r args =>
       have H:rd=true→False:=fun e=>by obtain ⟨_,x,K⟩:=jr (D e) q;cases K
       rw [Oper.upon_row] at h ⊢;exact Rows.mono h fun x L he=>key x L ds (fun e=>(H e).elim) he
      | _=>exact h
    ·right;refine ⟨?_,h.2⟩;have M:=h.1;unfold Oper.asks at M ⊢;rw [yr (ds':=ds) S C] at M;exact M
   ·rw [if_neg U] at h ⊢;exact key undef w ds hw h
theorem mC {o:Oper}{j d:Nat}{b qg:Bool}(a:o.guard=some (j,b)) (c:(ops[j]?).bind (·.dst)=some d) (e:Vb fr d (.bool qg)):Region.wanted o (yielded ops (F fr ds).tmps)=(qg == b):=by
 unfold Region.wanted;rw [a];simp only;have:yielded ops (F fr ds).tmps j=some qg:=by
  rw [lv,c];simp only;rw [aa e ds]
 rw [this];cases b<;>cases qg<;>rfl
theorem UG {o:Oper}{j d:Nat}{b:Bool}(a:o.guard=some (j,b)) (c:(ops[j]?).bind (·.dst)=some d) (e:Vb fr d undef):Region.wanted o (yielded ops (F fr ds).tmps)=false:=by
 unfold Region.wanted;rw [a];simp only;have:yielded ops (F fr ds).tmps j=none:=by
  rw [lv,c];simp only;rw [aa e ds];rfl
 rw [this];rfl
theorem cc {o:Oper}(a:o.guard=none):Region.wanted o (yielded ops (F fr ds).tmps)=true:=by simp [Region.wanted,a]
theorem zr {o:Oper}{j d:Nat}{b:Bool}(a:o.guard=some (j,b)) (c:(ops[j]?).bind (·.dst)=some d) (e:Vb fr d (.bool b)):Region.wanted o (yielded ops (F fr ds).tmps)=true :=
 (mC a c e).trans (by cases b<;>rfl)
end
end Go.Ab
namespace Go.Ab
open Go.RowKit
section
variable {P:Program}{Q:Exit→Act→World→Prop}{ops:Array Oper}{fr ua:List Value}{ds:List Deferred}{w:World}
def waits (ops:Array Oper) (R S:List Nat) (i:Nat):Bool:=S.all fun j=>j == i || S.any fun k=>(Yk ops j).contains k && R.contains k
theorem Wk.later {R d:List Nat}(h:Wk ops R d) (m:R.Nodup){i:Nat}{S:List Nat}(n:∀ j ∈ S,j=i∨∃ k ∈ S,k ∈ Yk ops j∧k ∈ R):∀ a c,d=a++i::c→i ∉ a→∀ j ∈ a,j ∉ S:=by
 induction h with
 | z=>intro a c h; simp at h
 | @s R d k o t p =>
  intro a c h Pa j b;cases a with
  | nil=>cases b
  | cons e a =>
   simp only [List.cons_append,List.cons.injEq] at h;obtain ⟨rfl,h⟩:=h;have he:k ∉ S:=fun hm=>by
    rcases n k hm with rfl | ⟨q,f,g,l⟩
    ·exact Pa (by simp)
    ·exact mB o g l
   rcases List.mem_cons.1 b with rfl | b
   ·exact he
   ·refine p (m.erase k) (fun j b=>?_) a c h (fun hm=>Pa (by simp [hm])) j b;rcases n j b with rfl | ⟨q,f,g,l⟩
    ·exact .inl rfl
    ·exact .inr ⟨q,f,g,(m.mem_erase_iff).2 ⟨fun e=>he (e ▸ f),l⟩⟩
def gx (ops:Array Oper) (S R:List Nat) (i:Nat):Bool :=
 match ops[i]? with
 | some o=>match o.dst with
  | some d=>Ck o.op && R.all fun j=>S.contains j || (match ops[j]? with
    | some p=>Ck p.op && !(reads ops p).contains d && p.dst != some d && (match p.dst with | some e=>!(reads ops o).contains e | none=>true) && quiet p.op
    | none=>true)
  | _=>false
 | none=>false
theorem gG {R R':List Nat}{i:Nat}(S:List Nat){wt:Bool}{dst:Tmp}{op:Op}{ty:TypeId}{pos:String}{after:Array Edge}{m:Option (Nat×Bool)}{v:Value}(A:hi Q dst) (n:(decide R.Nodup && enabled ops R i && waits ops R S i && gx ops S R i)=true) (B:R.erase i=R') (o:ops[i]?=some ⟨some dst,op,ty,pos,after,m⟩)
  (C:Region.wanted ⟨some dst,op,ty,pos,after,m⟩ (yielded ops (F fr ds).tmps)=wt) (D:wt=false→v=undef)
  (Wa:wt=true→∀ ds w',w'=w→(execOp (F fr ds).eval ⟨some dst,op,ty,pos,after,m⟩).run P w'=.ok (.value v) w') (f:uc fr dst v ua) (h:Fi P ops Q R' ua ds w):Fi P ops Q R fr ds w:=⟨fun U q=>by
 simp only [Bool.and_eq_true,decide_eq_true_eq] at n;obtain ⟨⟨⟨r,s⟩,t⟩,g⟩:=n;obtain ⟨u,x,rfl,G,y⟩:=q.split r (Em s) s;have H:=Wk.later (S:=S) q r (fun j l=>by
  unfold waits at t;have:=List.all_eq_true.1 t j l;simp only [Bool.or_eq_true,beq_iff_eq,List.any_eq_true,Bool.and_eq_true,List.contains_iff_mem] at this;rcases this with h | ⟨k,k1,K,L⟩
  ·exact .inl h
  ·exact .inr ⟨k,k1,K,L⟩) u x rfl (fun hm=>(y i hm).2.1 rfl)
 unfold gx at g;simp only [o,Bool.and_eq_true,List.all_eq_true,Bool.or_eq_true,List.contains_iff_mem] at g;unfold uc at f;subst f;subst B;refine IA A o rfl D (rd:=true) (w0:=w) (v:=v) u x fr ds w (fun j l=>?_) (fun _=>rfl) g.1 C (fun a b c d=>Wa a b c (d rfl)) (h.out _ G);obtain ⟨a,b,c⟩:=y j l;have:=g.2 j a;rcases this with h | h
 ·exact absurd h (H j l)
 ·cases f:ops[j]? with
  | none=>trivial
  | some p =>
   rw [f] at h;simp only [Bool.and_eq_true,Bool.not_eq_true',bne_iff_ne,ne_eq] at h;obtain ⟨⟨⟨⟨M,N⟩,O⟩,z⟩,T⟩:=h;refine ⟨M,N,O,fun e he=>?_,fun e=>T⟩;rw [he] at z;simpa using z⟩
theorem VJ {R R':List Nat}{i:Nat}(S:List Nat){dst:Tmp}{op:Op}{ty:TypeId}{pos:String}{after:Array Edge}{v:Value}(a:hi Q dst) (b:(decide R.Nodup && enabled ops R i && waits ops R S i && gx ops S R i)=true) (c:R.erase i=R') (d:ops[i]?=some ⟨some dst,op,ty,pos,after,none⟩)
  (Wa:Dl P ⟨some dst,op,ty,pos,after,none⟩ fr w v) (e:uc fr dst v ua) (h:Fi P ops Q R' ua ds w):Fi P ops Q R fr ds w :=
 gG S (wt:=true) a b c d (cc rfl) (fun h=>by cases h) (fun _ ds w' hw=>by rw [hw];exact Wa.out ds) e h
end
end Go.Ab
namespace Go.Ab
open Go.RowKit
section
variable {P:Program}{Q:Exit→Act→World→Prop}{K:List Value→List Deferred→World→Prop}{fr ua:List Value}{ds:List Deferred}{w:World}
variable {dst:Option Tmp}{ty:TypeId}{pos:String}{after:Array Edge}{g:Option (Nat×Bool)}
variable {S Ed:Nat→Prop}{w0:World}{rs rs':List mb}{A:World→Prop}
variable {T:TypeId}{d:TypeDesc}{Hf:Bool}{xd:List Value}{n m:Nat}
inductive Tr (fr:List Value) (n:Nat):Nat→List (Nat×Operand)→List Value→Prop where
 | z {i:Nat}:Tr fr n i [] []
 | s {i:Nat} {x:Operand} {v:Value} {cs rest:List Value} {xs:List (Nat×Operand)} (a:cb fr x v) (Wa:v.cells=⟨cs⟩) (b:cs.length=n) (t:Tr fr n (i+1) xs rest):Tr fr n i ((i,x)::xs) (cs++rest)
theorem Tr.fill {i:Nat}{xs:List (Nat×Operand)}{cells:List Value}(h:Tr fr n i xs cells):∀ a:List Value,a.length=i*n+cells.length →
  Instr.fill (fun i=>some (i*n,n)) ⟨a⟩ (xs.map fun p=>(p.1,(F fr ds).eval p.2))=some ⟨a.take (i*n)++cells⟩:=by
 induction h with
 | z=>intro a b; simp at b; simp [Instr.fill,← b]
 | @s i x v cs rest xs f Wa c t g =>
  intro a b;simp only [List.length_append] at b;have d:(i+1)*n=i*n+n:=by rw [Nat.add_mul,Nat.one_mul]
  simp only [List.map_cons,Instr.fill,f ds,Wa];have Ib:¬ (((⟨cs⟩:Array Value).size≠n || i*n+(⟨cs⟩:Array Value).size > (⟨a⟩:Array Value).size)=true):=by simp [c,b]
  rw [if_neg Ib];have j:=kv cs (i*n) 0 a (by omega);have ra:(⟨cs⟩:Array Value).zipIdx.toList=cs.zipIdx 0:=by simp
  have e:(⟨cs⟩:Array Value).zipIdx.foldl (fun (cs:Array Value) (p:Value×Nat)=>cs.setIfInBounds (i*n+p.2) p.1) ⟨a⟩=⟨a.take (i*n+0)++cs++a.drop (i*n+0+cs.length)⟩:=by
   rw [← Array.foldl_toList,ra];exact j
  first
   | rw [e]
   | (erw [e])
  rw [g _ (by simp [d,c,b];omega)];congr 2;rw [d,c,Nat.add_zero];have:(a.take (i*n)++cs).length=i*n+n:=by simp [c];omega
  rw [← this,List.take_left,List.append_assoc]
theorem lD {e:TypeId}{len:Nat}{xs:List (Nat×Operand)}{cells:List Value}(f:P.underlying T=some (.slice e)) (c:qc P e Hf xd n m) (a:(decide (0<n) && decide (n≤1000) && decide (0<len) && decide (len≤1000))=true) (j:Tr fr n 0 xs cells) (k:cells.length=len*n) (l:Sep S Ed w0 w rs A)
  (h:∀ b w',w.heap.size≤b→Sep S Ed w0 w' (.ba b e cells::rs) A→hh fr dst (.slice (some ⟨b,0,none⟩) len len) fun ua=>K ua ds w'):Kd P (Oper.mk dst (.buildSlice T len ⟨xs⟩) ty pos after g) fr ds w K Q:=by
 obtain ⟨ua,Qa⟩:=Ji fr dst (.slice (some ⟨w.heap.size,0,none⟩) len len);refine Qh (v:=.slice (some ⟨w.heap.size,0,none⟩) len len) (w':=w.alloc (.cells ⟨cells⟩ e)) ?_ Qa (h _ _ (Nat.le_refl _) (l.alloc rfl (heap_alloc_new w _)) ua Qa);obtain ⟨z,o,hc⟩:=c.zero (w:=w);have q:=c.sizeOf (w:=w);simp only [Bool.and_eq_true,decide_eq_true_eq] at a;have hmul:len*n≤1000*1000:=Nat.mul_le_mul a.2 a.1.1.2;have r:¬ (len*n > 2 ^ 24):=by omega
 have s:¬ (len*n=0):=by
  have:=Nat.mul_pos a.1.2 a.1.1.1;omega
 have t:((⟨xs⟩:Array (Nat×Operand)).map fun (i,x)=>(i,(F fr ds).eval x)).toList=xs.map fun p=>(p.1,(F fr ds).eval p.2):=by simp
 have d:=j.fill (ds:=ds) ((Array.range (len*n)).map (z.cells[· % z.cells.size]!)).toList (by simp [k]);simp only [execOp,Instr.buildSlice,Sem.run_bind,run_underlying f,Result.andThen_ok,q,if_neg r,if_neg s,o,Sem.run_pure,t];have u:(⟨((Array.range (len*n)).map (z.cells[· % z.cells.size]!)).toList⟩:Array Value)=(Array.range (len*n)).map (z.cells[· % z.cells.size]!):=rfl;rw [u] at d;simp only [d];simp [newRow]
structure Xu (P:Program) (c:Code) (Q:Exit→Act→World→Prop) (n:Nat) (fr:List Value) (ds:List Deferred) (w:World):Prop where
 out:Code.rounds P c Q n (F fr ds) w
theorem Cz {c:Code}(n:Nat) (h:Xu P c Q n fr ds w):te P (.loop c) Q fr ds w:=⟨wp_loop_rounds n h.out⟩
theorem um {c:Code}{n:Nat}(h:te P c (Exit.then (fun a w=>∃ fr ds,a=F fr ds∧Xu P c Q n fr ds w) Q) fr ds w):Xu P c Q (n+1) fr ds w:=⟨by
 rw [rounds_succ];refine wp_mono h.out fun e a w b=>?_;cases e with
 | normal=>obtain ⟨fr,ds,rfl,h⟩:=b; exact h.out
 | exit id=>exact b
 | goto l=>exact b
 | ret=>exact b
 | panic d=>exact b
 | outgrown=>exact b⟩
theorem ep {c:Code}{n:Nat}(h:Xu P c Q n fr ds w):Exit.then (fun a w=>∃ fr ds,a=F fr ds∧Xu P c Q n fr ds w) Q .normal (F fr ds) w:=⟨_,_,rfl,h⟩
theorem HC {f:Operand}{xs:List Operand}{tys:Array TypeId}{k:FuncId}{first cap vs:List Value}{R:Value→World→Prop}(b:Hb P k) (c:cb fr f (.func (.func k) ⟨first⟩ ⟨cap⟩)) (hs:xl fr xs vs)
  (hc:tb P k (first++vs++cap) w R) (h:∀ v w',R v w'→hh fr dst v fun ua=>K ua ds w'):Kd P (Oper.mk dst (.call { callee:=.value f,args:=⟨xs⟩,argTypes:=tys }) ty pos after g) fr ds w K Q:=by
 refine Ow (args:=first++vs++cap) ?_ hc h;have d:=c ds;have i:=hs ds;have a:=b.out ⟨first++vs++cap⟩ w;have e:(⟨first⟩:Array Value)++(⟨vs⟩:Array Value)++(⟨cap⟩:Array Value)=⟨first++vs++cap⟩:=by
  apply Array.ext';simp
 simp only [List.append_assoc] at a e ⊢;simp [execOp,resolve,d,Deferred.ofValue,invoke,i];first
  | exact a
  | (simpa using a)
end
end Go.Ab
namespace Go.jc
open Go.Ab Go.RowKit
section
variable {P:Program}{Q:Exit→Act→World→Prop}{K:List Value→List Deferred→World→Prop}{fr ua:List Value}{ds:List Deferred}{w:World}
variable {dst:Option Tmp}{ty:TypeId}{pos:String}{after:Array Edge}{g:Option (Nat×Bool)}
variable {w0:World}{rs rs':List mb}{μ I:M}
variable {T:TypeId}{d:TypeDesc}{Hf:Bool}{xd:List Value}{n m:Nat}
def okV (R:Value→World→Prop):Ending→World→Prop
 | .returned v,w=>R v w
 | _,_=>False
def ns (P:Program) (fn:Func) (R:Value→World→Prop):Exit→Act→World→Prop
 | .panic _,_,_=>False
 | e,a,w=>bodyPostD P fn (okV R) e a w
theorem ru {f:FuncId}{fn:Func}{c:Code}{args frm:List Value}{R:Value→World→Prop}(d:P.funcs[f]?=some fn) (g:fn.body=some c)
  (i:args++List.replicate (fn.ntmps - args.length) undef=frm) (h:te P c (ns P fn R) frm [] w):tb P f args w R:=by
 refine ⟨Calls.mono (calls_of_wp_defers (R:=okV R) d g ?_) fun e w he=>by cases e<;>exact he⟩;subst i;have ra:(⟨args⟩:Array Value)++Array.replicate (fn.ntmps - args.length) undef=⟨args++List.replicate (fn.ntmps - args.length) undef⟩:=by
  apply Array.ext';simp
 have h:=wp_mono h.out (Q':=bodyPostD P fn (okV R)) fun e a w b=>by
  cases e<;>first | exact b | exact (False.elim b)
 simpa [F,ra] using h
structure Rw (P:Program) (f:FuncId) (args:List Value) (w:World) (R:Value→World→Prop):Prop where
 out:∀ u,CallsD P f ⟨args⟩ u w fun e a w'=>a=u∧okV R e w'
theorem IC {f:FuncId}{fn:Func}{c:Code}{args frm:List Value}{R:Value→World→Prop}(d:P.funcs[f]?=some fn) (g:fn.body=some c)
  (j:args++List.replicate (fn.ntmps - args.length) undef=frm) (h:te P c (dp P fn R) frm [] w):Rw P f args w R:=by
 refine ⟨fun u=>callsD_of_wp d g ?_⟩;subst j;have ra:(⟨args⟩:Array Value)++Array.replicate (fn.ntmps - args.length) undef=⟨args++List.replicate (fn.ntmps - args.length) undef⟩:=by
  apply Array.ext';simp
 have h:=wp_mono h.out (Q':=bodyPost P fn (okV R)) fun e a w b=>by
  cases e with
  | normal=>exact b
  | ret=>exact b
  | panic k=>exact b
  | exit i=>exact b
  | goto l=>exact b
  | outgrown=>exact b
 simpa [F,ra] using h
theorem Sw {f:Operand}{xs:List Operand}{tys:Array TypeId}{k:FuncId}{cap vs:List Value}(a:cb fr f (.func (.func k) #[] ⟨cap⟩)) (hs:xl fr xs vs)
  (b:Te fr dst undef ua) (h:K ua (⟨.fn (.func k) ⟨cap⟩,⟨vs⟩⟩::ds) w):Kd P (Oper.mk dst (.defer { callee:=.value f,args:=⟨xs⟩,argTypes:=tys }) ty pos after g) fr ds w K Q:=by
 constructor;intro j c;have d:=a ds;have e:=hs ds;have i:(execOp (F fr ds).eval (Oper.mk dst (.defer { callee:=.value f,args:=⟨xs⟩,argTypes:=tys }) ty pos after g)).run P w=.ok (.defer ⟨.fn (.func k) ⟨cap⟩,⟨vs⟩⟩) w:=by
  simp [execOp,resolve,d,Deferred.ofValue,e]
 unfold Oper.wp;rw [i];have:=c _ _ _ h;rw [← b _] at this;simpa [Oper.upon,F,Act.put] using this
theorem JA {fn:Func}{R a:Value→World→Prop}{k:FuncId}{cap vs:List Value}(b:Hb P k) (hc:Rw P k (vs++cap) w a) (h:∀ v w',a v w'→ns P fn R .ret (F fr ds) w') :
  ns P fn R .ret (F fr (⟨.fn (.func k) ⟨cap⟩,⟨vs⟩⟩::ds)) w:=by
 refine ⟨by simp,.func k,⟨cap⟩,k,⟨vs++cap⟩,rfl,?_,?_⟩
 ·have:=b.out ⟨vs++cap⟩ w;simp [invoke,this]
 ·refine (hc.out .returning).mono fun e d w' he=>?_;obtain ⟨rfl,he⟩:=he;cases e with
  | returned v=>exact h v w' he
  | panicked c=>exact he.elim
  | outgrown=>exact he.elim
theorem ps {fn:Func}{R:Value→World→Prop}{a:List ResultVar}{vs:List Value}(b:fn.results=⟨a⟩) (Wa:tc P fr w a vs) (h:R (Es vs) w):ns P fn R .ret (F fr []) w :=
 ⟨_,lB b Wa,h⟩
def Ah (ms:List (Nat×List MapEntry×Nat)):List mb:=(ms.map fun m=>.map m.1 m.2.1 m.2.2).reverse
def Vh (ms:List (Nat×List MapEntry×Nat)):List Value:=ms.map fun m=>.map (some m.1)
variable {κ β:Type}[DecidableEq κ] [qb κ] [Mh β]
def Og (μ:M):List (Nat×List MapEntry×Nat)→List (List (κ×β))→Prop
 | [],a=>a=[]
 | m::ms,a=>∃ x t,a=x::t∧Wf μ m.2.1 m.2.2 x∧Og μ ms t
theorem Og.up (l:da μ I):∀ {ms:List (Nat×List MapEntry×Nat)}{a:List (List (κ×β))},Og μ ms a→Og I ms a
 | [],a,h=>by rw [Og] at h ⊢; exact h
 | m::ms,a,h=>by
  rw [Og] at h ⊢;obtain ⟨x,t,b,c,d⟩:=h;exact ⟨x,t,b,c.up l,Og.up l d⟩
theorem Og.push:∀ {ms:List (Nat×List MapEntry×Nat)}{a:List (List (κ×β))}{e:Nat×List MapEntry×Nat}{x:List (κ×β)},Og μ ms a→Wf μ e.2.1 e.2.2 x→Og μ (ms++[e]) (a++[x])
 | [],a,e,x,h,b=>by rw [Og] at h; subst h; exact ⟨x,[],rfl,b,rfl⟩
 | m::ms,a,e,x,h,b=>by
  rw [Og] at h;obtain ⟨y,t,rfl,c,d⟩:=h;exact ⟨y,_,rfl,c,Og.push d b⟩
theorem Og.take:∀ {ms:List (Nat×List MapEntry×Nat)}{a:List (List (κ×β))}(j:Nat),Og μ ms a→Og μ (ms.take j) (a.take j)
 | [],a,j,h=>by rw [Og] at h; subst h; simp [Og]
 | m::ms,a,j,h=>by
  rw [Og] at h;obtain ⟨y,t,rfl,b,c⟩:=h;cases j with
  | zero=>simp [Og]
  | succ j=>exact ⟨y,_,rfl,b,Og.take j c⟩
theorem IE (ms:List (Nat×List MapEntry×Nat)) (e:Nat×List MapEntry×Nat):Ah (ms++[e])=.map e.1 e.2.1 e.2.2::Ah ms:=by simp [Ah]
theorem WJ {t:TypeId}{s x:Operand}{v:Value}{bytes k b ln c:Nat}{ms:List (Nat×List MapEntry×Nat)}{d e:List (List (κ×β))}(f:P.underlying t=some (.slice T)) (i:qc P T Hf xd 1 bytes) (j:xd.length=1)
  (hs:cb fr s v) (l:cb fr x (.slice (some ⟨b,0,none⟩) 1 c)) (m:ia μ w0 w rs) (n:Vb rs k (.row v T 1 d.length (Vh ms))) (o:gj w b 0 [.map (some ln)]) (p:app d [([]:List (κ×β))]=some e) (q:bytes≤4096)
  (h:∀ a w' rs',uc rs k (.row a T 1 e.length (Vh ms++[.map (some ln)])) rs'→ia μ w0 w' rs'→hh fr dst a fun ua=>K ua ds w') :
  Kd P (Oper.mk dst (.call { callee:=.builtin .append,args:=#[s,x],argTypes:=#[t,t] }) ty pos after g) fr ds w K Q:=by
 obtain ⟨r,u⟩:=Qw p;refine Rp f i (by simp [j]) hs l m n o rfl rfl ⟨u,q⟩ fun a w' rs' y=>h a w' rs' (by rw [r];exact y)
theorem _root_.Go.Ab.Sep.GL {pre:List mb}{ms:List (Nat×List MapEntry×Nat)}{b c:Nat}{es:List MapEntry}(a:ia μ w0 w (pre++(.map b es c::(Ah ms++rs)))):ia μ w0 w (pre++(Ah (ms++[(b,es,c)])++rs)):=by
 rw [IE];exact a
theorem JE (ms:List (Nat×List MapEntry×Nat)) (b c:Nat) (es:List MapEntry):Vh ms++[.map (some b)]=Vh (ms++[(b,es,c)]):=by simp [Vh]
theorem _root_.Go.Ab.Sep.gE {pre:List mb}{ms:List (Nat×List MapEntry×Nat)}{j:Nat}(a:ia μ w0 w (pre++(Ah ms++rs))):ia μ w0 w (pre++(Ah (ms.take j)++rs)):=by
 have c:(pre++(Ah (ms.take j)++rs)).Sublist (pre++(Ah ms++rs)):=by
  refine (List.Sublist.refl pre).append (List.Sublist.append ?_ (List.Sublist.refl rs));unfold Ah;exact ((List.take_sublist j ms).map _).reverse
 refine ⟨a.keeps,fun r d=>a.all r (c.subset d),(c.filterMap _).nodup a.qi,fun b e=>a.new b ((c.filterMap _).subset e),?_⟩;refine a.Li.mono fun k _ hs=>⟨hs.1,fun hm=>hs.2 ((c.filterMap mb.block).subset hm)⟩
theorem Row.OD {v:Value}{sz:Nat}{xs:List Value}{j:Int}(h:Row w v T sz n xs) (d:0≤j) (q:j≤n) :
  ∃ a,qq v sz none (some j) a∧a.ownBlock=v.ownBlock∧∀ w T,Row w v T sz n xs→Row w a T sz j.toNat (xs.take (j.toNat*sz)):=by
 have b:∀ w T,Row w v T sz n xs→(xs.take (j.toNat*sz)).length=j.toNat*sz:=fun w T h=>by
  rw [List.length_take,h.1];exact Nat.min_eq_left (Nat.mul_le_mul_right _ (by omega))
 rcases h.2 with ⟨rfl,rfl⟩ | ⟨g,o,cap,cur,rfl,r,s,t,u,x⟩
 ·have:j=0:=by omega
  subst this;exact ⟨.slice none 0 0,⟨none,0,0,rfl,by simp,by simp,by simp,by simp⟩,rfl,fun w T h=>⟨b w T h,.inl ⟨rfl,rfl⟩⟩⟩
 ·refine ⟨.slice (some ⟨g,o,none⟩) j.toNat cap,⟨_,_,_,rfl,by simp,by simpa using d,by simp;omega,?_⟩,rfl,fun e f c=>⟨b e f c,.inr ?_⟩⟩
  ·simp [Oj]
  ·rcases c.2 with ⟨Wa,_⟩ | ⟨y,o',z,i,Wa,k,k1,l,m,p⟩
   ·simp at Wa
   ·simp at Wa;obtain ⟨⟨rfl,rfl⟩,rfl⟩:=Wa;exact ⟨g,o,cap,i,rfl,k,by omega,l,m,by rw [← p,List.take_take,Nat.min_eq_left (Nat.mul_le_mul_right _ (by omega))]⟩
theorem Row.cutFrom {v:Value}{sz:Nat}{xs:List Value}{i:Int}(h:Row w v T sz n xs) (f:0≤i) (Pa:i≤n) :
  ∃ a,qq v sz (some i) none a∧a.ownBlock=v.ownBlock∧∀ w T,Row w v T sz n xs→Row w a T sz (n - i.toNat) (xs.drop (i.toNat*sz)):=by
 have c:∀ w T,Row w v T sz n xs→(xs.drop (i.toNat*sz)).length=(n - i.toNat)*sz:=fun w T h=>by
  rw [List.length_drop,h.1,Nat.sub_mul]
 rcases h.2 with ⟨rfl,rfl⟩ | ⟨g,o,cap,cur,rfl,m,p,q,r,s⟩
 ·have:i=0:=by omega
  subst this;exact ⟨.slice none 0 0,⟨none,0,0,rfl,by simp,by simp,by simp,by simp⟩,rfl,fun w T h=>⟨c w T h,.inl ⟨rfl,by simp⟩⟩⟩
 ·refine ⟨_,⟨_,_,_,rfl,by simpa using f,by simpa using Pa,by simp;omega,rfl⟩,by simp only [Option.getD_some];split<;>simp [Value.ownBlock,Oj],fun j k b=>⟨c j k b,.inr ?_⟩⟩;rcases b.2 with ⟨Wa,_⟩ | ⟨t,o',u,d,Wa,e,k1,x,y,l⟩
  ·simp at Wa
  ·simp at Wa;obtain ⟨⟨rfl,rfl⟩,rfl⟩:=Wa;have hmul:i.toNat*sz+(cap - i.toNat)*sz=cap*sz:=by rw [← Nat.add_mul];congr 1;omega
   by_cases hc:cap=i.toNat
   ·refine ⟨g,o,cap - i.toNat,d,by simp [hc],e,by omega,by omega,by omega,?_⟩;rw [show n - i.toNat=0 by omega,Nat.zero_mul,List.take_zero,List.drop_eq_nil_of_le (by rw [b.1];exact Nat.mul_le_mul_right _ (by omega))]
   ·refine ⟨g,o+i.toNat*sz,cap - i.toNat,d,by simp [hc,Oj],e,by omega,by omega,by omega,?_⟩;rw [← l,← List.drop_drop,List.drop_take,Nat.sub_mul]
theorem na.drop {α:Type}[Ja α]:∀ {l:List α}{cells:List Value}(i:Nat),na μ cells l→na μ (cells.drop (i*Ja.sz α)) (l.drop i)
 | [],cells,i,h=>by rw [na] at h; subst h; simp [na]
 | x::l,cells,0,h=>by simpa using h
 | x::l,cells,i+1,h=>by
  rw [na] at h;obtain ⟨cs,t,rfl,a,b⟩:=h;have e:(i+1)*Ja.sz α=cs.length+i*Ja.sz α:=by rw [Nat.add_mul,Ja.Hg a];omega
  rw [e,← List.drop_drop];simpa using na.drop i b
theorem Row.hE {α:Type}[Ja α]{v:Value}{cells:List Value}{l b:List α}{i:Int}(h:Row w v T (Ja.sz α) l.length cells) (hm:na μ cells l) (g:cut l i l.length=some b) :
  ∃ a c,qq v (Ja.sz α) (some i) none a∧a.ownBlock=v.ownBlock∧(∀ w T,Row w v T (Ja.sz α) l.length cells→Row w a T (Ja.sz α) b.length c)∧na μ c b:=by
 obtain ⟨⟨d,e,m⟩,rfl⟩:=Qr g;obtain ⟨a,ra,f,j⟩:=Row.cutFrom h d e;refine ⟨a,cells.drop (i.toNat*Ja.sz α),ra,f,fun w T k=>?_,by simpa using hm.drop i.toNat⟩;have:=j w T k;simpa using this
theorem Row.AM {v:Value}{ms:List (Nat×List MapEntry×Nat)}{a c:List (List (κ×β))}{j:Int}(h:Row w v T 1 a.length (Vh ms)) (hm:Og μ ms a) (g:cut a 0 j=some c) :
  ∃ b d,qq v 1 none (some j) b∧b.ownBlock=v.ownBlock∧(∀ w T,Row w v T 1 a.length (Vh ms)→Row w b T 1 c.length (Vh d))∧Og μ d c∧ms.take j.toNat=d:=by
 obtain ⟨⟨m,e,f⟩,rfl⟩:=Qr g;obtain ⟨b,ra,i,k⟩:=Row.OD h e f;refine ⟨b,ms.take j.toNat,ra,i,fun w T l=>?_,by simpa using hm.take j.toNat,rfl⟩;have:=k w T l;have el:((a.take j.toNat).drop (0:Int).toNat).length=j.toNat:=by simp;omega
 rw [el];have Fa:Vh (ms.take j.toNat)=(Vh ms).take (j.toNat*1):=by simp [Vh]
 rw [Fa];exact this
theorem _root_.Go.Ab.Sep.perm {S Ed:Nat→Prop}{A:World→Prop}(h:Sep S Ed w0 w rs A) (a:rs.Perm rs'):Sep S Ed w0 w rs' A where
 keeps:=h.keeps
 all r c:=h.all r (a.mem_iff.2 c)
 qi:=(a.filterMap _).nodup_iff.1 h.qi
 new b d:=h.new b ((a.filterMap _).mem_iff.2 d)
 Li:=h.Li.mono fun k _ hs=>⟨hs.1,fun hm=>hs.2 ((a.filterMap mb.block).mem_iff.2 hm)⟩
theorem _root_.Go.Ab.Sep.uf {a p M R:List mb}(h:ia μ w0 w (a++(p++(M++R)))):ia μ w0 w (a++(M++(p++R))):=
 h.perm (List.Perm.append_left a (by
  rw [← List.append_assoc,← List.append_assoc];exact List.Perm.append_right R List.perm_append_comm))
theorem _root_.Go.Ab.Sep.Cu {k:Nat}{v c:Value}{sz d:Nat}{xs e:List Value}{S Ed:Nat→Prop}{A:World→Prop}(a:Sep S Ed w0 w rs A) (f:Vb rs k (.row v T sz n xs)) (l:c.ownBlock=v.ownBlock) (m:∀ w T,Row w v T sz n xs→Row w c T sz d e) (g:uc rs k (.row c T sz d e) rs'):Sep S Ed w0 w rs' A:=by
 have h:Row w v T sz n xs:=a.get f;cases Wa:v.ownBlock with
 | some b=>exact a.put (b:=b) (r:=.row v T sz n xs) (r':=.row c T sz d e) f Wa (l.trans Wa) g (m _ _ h) (Fh.refl _)
 | none =>
  unfold uc at g;subst g;have j:=BB (r':=.row c T sz d e) f (show c.ownBlock=v.ownBlock from l);refine ⟨a.keeps,fun r o=>?_,by rw [j];exact a.qi,by rw [j];exact a.new,by rw [j];exact a.Li⟩;obtain ⟨i,Pa⟩:=List.mem_iff_getElem?.1 o;rw [List.getElem?_set] at Pa;split at Pa
  ·split at Pa
   ·cases Pa;exact m _ _ h
   ·cases Pa
  ·exact a.all r (List.mem_of_getElem? Pa)
end
end Go.jc
namespace Go.jc
open Go.Ab Go.RowKit
theorem Pb {P : Program} {f : FuncId} {fn : Func} (a : P.funcs[f]? = some fn) (b : fn.body.isSome = true := by rfl) (c : (fn.name == "runtime.NumGoroutine") = false := by kernel_rfl) : Hb P f := mI a b c
theorem Xd {P : Program}{T : TypeId}{d : TypeDesc}{Hf : Bool}{z : Value}{xd : List Value}{n m : Nat}(hu : P.underlying T = some d) (a : Jx d = Hf := by rfl) (h : (P.info? T).map (fun i => (i.zero, i.size, i.bytes)) = some (some z, n, m):= by kernel_rfl) (b : z.cells = ⟨xd⟩ := by rfl) : qc P T Hf xd n m := CL hu a h b
end Go.jc
namespace Go.jc
open Go.Ab Go.RowKit
theorem Zk {v:Value}{l:List Value}(h:we v=true) (k:l.all we=true):(v::l).all we=true:=by simp [h,k]
theorem Fs:([]:List Value).all we=true:=rfl
theorem nB (A vs:List Value) (o q N:Nat) (b:q+vs.length≤N) (c:o+N≤A.length):((A.take (o+q)++vs++A.drop (o+q+vs.length)).drop o).take N=((A.drop o).take N).take q++vs++((A.drop o).take N).drop (q+vs.length):=by
 apply List.ext_getElem?;intro j;simp only [List.getElem?_take,List.getElem?_drop,List.getElem?_append,List.length_append,List.length_take,List.length_drop];have ra:min (o+q) A.length=o+q:=by omega
 have a:min q (min N (A.length - o))=q:=by omega
 rw [ra,a];by_cases c1:j<q
 ·have c2:j<N:=by omega
  have c3:j<q+vs.length:=by omega
  simp [c1,c2,c3,show o+j<o+q by omega,show o+j<o+q+vs.length by omega]
 ·by_cases c2:j<q+vs.length
  ·rw [if_pos (by omega),if_pos (by omega),if_neg (by omega),if_pos (by omega),if_neg (by omega)];congr 1;omega
  ·by_cases c3:j<N
   ·rw [if_pos c3,if_neg (by omega),if_neg (by omega),if_pos (by omega)];congr 1;omega
   ·rw [if_neg c3,if_neg (by omega),if_neg (by omega)]
section
variable {P:Program}{Q:Exit→Act→World→Prop}{K:List Value→List Deferred→World→Prop}{fr ua:List Value}{ds:List Deferred}{w:World}
variable {dst:Option Tmp}{ty:TypeId}{pos:String}{after:Array Edge}{g:Option (Nat×Bool)}
variable {w0:World}{rs rs':List mb}{μ I:M}
variable {T:TypeId}{d:TypeDesc}{Hf:Bool}{xd:List Value}{n m:Nat}
theorem Mm {x y:Operand}{b o off sz len k:Nat}{i:Int}{v e:Value}{vs xs f:List Value}{a:TypeId}{S Ed:Nat→Prop}{A:World→Prop}(s:qc P T Hf xd n m) (t:cb fr x (.pointer (some ⟨b,o+off,none⟩))) (u:cb fr y e) (Wa:e.cells=⟨vs⟩) (z:vs.length=n) (B:vs.all we=true)
  (j:Sep S Ed w0 w rs A) (l:Vb rs k (.row v a sz len xs)) (he:oj v sz i b o) (R:off+vs.length≤sz) (C:xs.take (i.toNat*sz+off)++vs++xs.drop (i.toNat*sz+off+vs.length)=f) (D:uc rs k (.row v a sz len f) rs')
  (Qa:Te fr dst undef ua) (h:∀ w',Sep S Ed w0 w' rs' A→K ua ds w'):Kd P (Oper.mk dst (.store T x y) ty pos after g) fr ds w K Q:=by
 have F:Row w v a sz len xs:=j.get l;obtain ⟨c,de,c0,rfl,U,W,rfl⟩:=he.out;obtain ⟨hlen,d⟩:=F;rcases d with ⟨d,-⟩ | ⟨X,o',cap,cur,d,G,p,H,Y,L⟩
 ·cases d
 ·cases d;have Pa:i.toNat<len:=by omega
  have hmul:(i.toNat+1)*sz≤len*sz:=Nat.mul_le_mul_right _ Pa;have Z:len*sz≤c0*sz:=Nat.mul_le_mul_right _ p;have gc:(i.toNat+1)*sz=i.toNat*sz+sz:=Nat.succ_mul ..;have q:oi w b a cur.toList:=G;have hle:(c+i.toNat*sz+off)+0+vs.length≤(⟨cur.toList⟩:Array Value).size:=by simp;omega
  have r:=run_storeCells_at P b (c+i.toNat*sz+off) a vs 0 ⟨cur.toList⟩ w q hle fun v Wa=>ow (List.all_eq_true.1 B v Wa);have ra:e.cells.toList=vs:=by rw [Wa]
  have M:¬ (e.cells.size≠n):=by rw [Wa];simpa using z
  have N:=s.sizeOf (w:=w);simp only [Nat.add_zero] at r;have O:Fh (fun k=>k≠b) w (w.setRow b (cur.toList.take (c+i.toNat*sz+off)++vs++cur.toList.drop (c+i.toNat*sz+off+vs.length)).toArray):=⟨rfl,rfl,rfl,by simp [World.setRow],fun k hc hs=>setRow_other w b k _ hs⟩;refine FA ?_ Qa (h _ (j.put (b:=b) l rfl rfl D ?_ O))
  ·simp only [execOp,Instr.storeAt,t ds,u ds,Instr.sureAddr,storeVar,Sem.run_bind,N,Result.andThen_ok,if_neg M,ra,r,Sem.run_pure]
  ·subst C;refine ⟨by simp [hlen];omega,.inr ⟨b,c,c0,_,rfl,setRow_heap w b ⟨cur.toList⟩ _ a (0,0) q,p,H,?_,?_⟩⟩
   ·simp;omega
   ·subst L;have:=nB cur.toList vs c (i.toNat*sz+off) (len*sz) (by omega) (by simp;omega);rw [← Nat.add_assoc] at this;exact this
class cm (α β:Type) [Ja α] [Ja β] where
 code:α→List β
 set:α→List β→α
 Qa:M→List Value→α→Prop
 up:∀ {μ I:M}{l:List Value}{x:α},da μ I→Qa μ l x→Qa I l x
 Hg:∀ {μ:M}{l:List Value}{x:α},Qa μ l x→l.length+1=Ja.sz α
 wr:∀ {μ:M}{l:List Value}{x:α}{ys:List β}{a:Option Addr}{c:Nat},Qa μ l x→Da μ a c ys→Ja.cs μ (l++[.slice a ys.length c]) (set x ys)
 st:∀ {μ:M}{l:List Value}{x:α}{ys:List β},Qa μ l x→Qa μ l (set x ys)
 ik:∀ {x:α},set x (code x)=x
 cs:∀ {x:α}{ys:List β},code (set x ys)=ys
variable {α β:Type}[Ja α] [Ja β] [cm α β]
end
end Go.jc
namespace Go.Ab
open Go.RowKit
section
variable {P:Program}{Q:Exit→Act→World→Prop}{ops:Array Oper}{fr ua:List Value}{ds:List Deferred}{w:World}
end
end Go.Ab
namespace Go.Ab
open Go.RowKit
section
variable {P:Program}{Q:Exit→Act→World→Prop}{ops:Array Oper}{fr ua:List Value}{ds:List Deferred}{w:World}
abbrev Mon:=List Nat×(World→Prop)
def Wh (i:Nat) (vc:List Mon):List Mon:=vc.filter fun m=>!m.1.contains i
def Sa:List Mon→World→Prop
 | [],_=>True
 | m::l,w=>m.2 w∧Sa l w
theorem Sa.mem {vc:List Mon}{w:World}:Sa vc w ↔ ∀ m ∈ vc,m.2 w:=by
 induction vc with
 | nil=>simp [Sa]
 | cons m l a=>simp [Sa,a]
theorem Sa.sub {vc Ns':List Mon}(h:Sa vc w) (hs:∀ m ∈ Ns',m ∈ vc):Sa Ns' w:=Sa.mem.2 fun m hm=>Sa.mem.1 h m (hs m hm)
theorem Tw {i:Nat}{vc:List Mon}:∀ m ∈ Wh i vc,m ∈ vc:=fun m hm=>(List.mem_filter.1 hm).1
theorem qw {i:Nat}{vc Ns':List Mon}(h:∀ m ∈ Ns',m ∈ vc):∀ m ∈ Wh i Ns',m ∈ Wh i vc:=fun m hm=>List.mem_filter.2 ⟨h m (List.mem_filter.1 hm).1,(List.mem_filter.1 hm).2⟩
def Vg (P:Program) (ops:Array Oper) (Q:Exit→Act→World→Prop):List Mon→List Nat→Act→World→Prop
 | _,[],a,w=>Q .normal a w
 | vc,i::rest,a,w =>
  match ops[i]? with
  | none=>Vg P ops Q (Wh i vc) rest a w
  | some o =>
   if Region.wanted o (yielded ops a.tmps) then o.wp P a w (fun a w=>Sa (Wh i vc) w∧Vg P ops Q (Wh i vc) rest a w) Q∨(o.asks P a w∧LetsOut Q)
   else Vg P ops Q (Wh i vc) rest (a.put o.dst undef) w
theorem Pz {o:Oper}{a:Act}{K c:Act→World→Prop}(h:o.wp P a w K Q) (b:∀ a w,K a w→c a w):o.wp P a w c Q:=by
 unfold Oper.wp at h ⊢;cases d:(execOp a.eval o).run P w with
 | halt e w'=>rw [d] at h; cases e <;> exact h
 | ok r w' =>
  rw [d] at h;cases r with
  | value x=>exact b _ _ h
  | skip=>exact b _ _ h
  | defer i=>exact b _ _ h
  | enter f args =>
   rw [Oper.upon_enter] at h ⊢;refine Calls.mono h fun e g he=>?_;cases e with
   | returned x=>exact b _ _ he
   | panicked j=>exact he
   | outgrown=>exact he
  | row r args =>
   rw [Oper.upon_row] at h ⊢;exact Rows.mono h fun x g he=>b _ _ he
  | _=>exact h
theorem Vg.mono:∀ (b:List Nat){vc Ns':List Mon}{a:Act}{w:World},Vg P ops Q vc b a w→(∀ m ∈ Ns',m ∈ vc)→Vg P ops Q Ns' b a w
 | [],_,_,_,_,h,_=>h
 | i::b,vc,Ns',a,w,h,hs=>by
  simp only [Vg] at h ⊢;cases c:ops[i]? with
  | none=>rw [c] at h; exact Vg.mono b h (qw hs)
  | some o =>
   rw [c] at h;simp only at h ⊢;split
   ·rename_i hw;rw [if_pos hw] at h;rcases h with h | h
    ·exact .inl (Pz h fun a w ⟨d,e⟩=>⟨d.sub (qw hs),Vg.mono b e (qw hs)⟩)
    ·exact .inr h
   ·rename_i hw;rw [if_neg hw] at h;exact Vg.mono b h (qw hs)
theorem Vg.plain:∀ (b:List Nat){vc:List Mon}{a:Act}{w:World},Vg P ops Q vc b a w→wpOps P ops Q b a w
 | [],_,_,_,h=>h
 | i::b,vc,a,w,h=>by
  simp only [Vg] at h;simp only [wpOps];cases c:ops[i]? with
  | none=>rw [c] at h; exact Vg.plain b h
  | some o =>
   rw [c] at h;simp only at h ⊢;split
   ·rename_i hw;rw [if_pos hw] at h;rcases h with h | h
    ·exact .inl (Pz h fun a w ⟨_,d⟩=>Vg.plain b d)
    ·exact .inr h
   ·rename_i hw;rw [if_neg hw] at h;exact Vg.plain b h
theorem KA {N:World→Prop}{S:List Nat}{i d:Nat}(q:hi Q d){o:Oper}{v:Value}(z:ops[i]?=some o) (Qa:o.dst=some d){wt:Bool}(A:wt=false→v=undef) :
  ∀ (a b:List Nat) (fr:List Value) (ds:List Deferred) (w:World) (vc:List Mon),
   (∀ j ∈ a,j ∉ S∧match ops[j]? with
    | some p=>Ck p.op=true∧(reads ops p).contains d=false∧p.dst≠some d∧(∀ e,p.dst=some e→(reads ops o).contains e=false)
    | none=>True) →
   N w→Sa vc w→Ck o.op=true→Region.wanted o (yielded ops (F fr ds).tmps)=wt →
   (wt=true→∀ ds w,N w→(execOp (F fr ds).eval o).run P w=.ok (.value v) w) →
   Vg P ops Q ((S,N)::vc) (a++b) (F (fr.set d v) ds) w→Vg P ops Q vc (a++i::b) (F fr ds) w
 | [],b,fr,ds,w,vc,_,hw,s,t,c,u,h=>by
  simp only [List.nil_append] at h ⊢;have h:=Vg.mono b h (Ns':=Wh i vc) fun m hm=>List.mem_cons_of_mem _ (Tw m hm);simp only [Vg,z];cases wt with
  | true =>
   rw [if_pos c];left;unfold Oper.wp;rw [u rfl ds w hw,Oper.upon_value,Qa];rw [show (F fr ds).put (some d) v=F (fr.set d v) ds from ha rfl ds];exact ⟨s.sub Tw,h⟩
  | false =>
   rw [if_neg (by rw [c];simp),Qa,← A rfl];rw [show (F fr ds).put (some d) v=F (fr.set d v) ds from ha rfl ds];exact h
 | j::a,b,fr,ds,w,vc,K,hw,s,t,c,u,h=>by
  obtain ⟨W,B⟩:=K j (by simp);have L:∀ k ∈ a,_:=fun k l=>K k (by simp [l]);have X:Wh j ((S,N)::vc)=(S,N)::Wh j vc:=by simp [Wh,W]
  simp only [List.cons_append,Vg,X] at h ⊢;cases M:ops[j]? with
  | none =>
   rw [M] at h;simp only at h ⊢;exact KA q z Qa A a b fr ds w _ L hw (s.sub Tw) t c u h
  | some p =>
   rw [M] at h B;simp only at h B ⊢;obtain ⟨O,C,Y,R⟩:=B;rw [Hy (fr:=fr) (v:=v) (ds:=ds) (ds':=ds) C] at h;have key:∀ (x:Value) (w':World) (ds':List Deferred),N w'→Sa (Wh j vc) w'→Vg P ops Q ((S,N)::Wh j vc) (a++b) ((F (fr.set d v) ds').put p.dst x) w'→Vg P ops Q (Wh j vc) (a++i::b) ((F fr ds').put p.dst x) w':=by
    intro x w' ds' Z gc l;obtain ⟨g,g1,g2,g3⟩:=put_eq fr ds' p.dst x;have hc:=wanted_put (ops:=ops) (o:=o) (p:=p) (ds':=ds') (fun y D=>g3 fr y ds' ds' D) R;rw [g1] at l ⊢;rw [g2 _ _ _ Y] at l;refine KA q z Qa A a b (g fr) ds' w' _ L Z gc t (hc.trans c) (fun lc n rc fd=>?_) l;rw [show execOp (F (g fr) n).eval o=execOp (F fr n).eval o from execOp_congr o t fun y D=>g3 fr y n n fun e he hs=>by
     exact pw (R e he) y D hs]
    exact u lc n rc fd
   by_cases T:Region.wanted p (yielded ops (F fr ds).tmps)=true
   ·rw [if_pos T] at h ⊢;rcases h with h | h
    ·left;unfold Oper.wp at h ⊢;rw [yr (ds':=ds) O C] at h;cases U:(execOp (F fr ds).eval p).run P w with
     | halt e w' =>
      rw [U] at h;cases e<;>first | exact h | exact q _ _ _ _ _ h
     | ok r w' =>
      rw [U] at h;cases r with
      | value x=>exact ⟨h.1.2,key x w' ds h.1.1 h.1.2 h.2⟩
      | skip=>exact ⟨h.1.2,key undef w' ds h.1.1 h.1.2 h.2⟩
      | defer id=>exact ⟨h.1.2,key undef w' (id::ds) h.1.1 h.1.2 h.2⟩
      | enter f args =>
       rw [Oper.upon_enter] at h ⊢;refine Calls.mono h fun e G he=>?_;cases e with
       | returned x=>exact ⟨he.1.2,key x G ds he.1.1 he.1.2 he.2⟩
       | panicked md=>exact q _ _ _ _ _ he
       | outgrown=>exact he
      | row r args =>
       rw [Oper.upon_row] at h ⊢;exact Rows.mono h fun x G he=>⟨he.1.2,key x G ds he.1.1 he.1.2 he.2⟩
      | _=>exact h
    ·right;refine ⟨?_,h.2⟩;have H:=h.1;unfold Oper.asks at H ⊢;rw [yr (ds':=ds) O C] at H;exact H
   ·rw [if_neg T] at h ⊢;exact key undef w ds hw (s.sub Tw) h
structure ff (P:Program) (ops:Array Oper) (Q:Exit→Act→World→Prop) (vc:List Mon) (R:List Nat) (fr:List Value) (ds:List Deferred) (w:World):Prop where
 out:Sa vc w→∀ a,Wk ops R a→Vg P ops Q vc a (F fr ds) w
theorem Jd {R:List Nat}(h:ff P ops Q [] R fr ds w):Fi P ops Q R fr ds w:=⟨fun a b=>Vg.plain a (h.out trivial a b)⟩
theorem dd {vc:List Mon}(h:Q .normal (F fr ds) w):ff P ops Q vc [] fr ds w:=⟨fun _ b a=>by
 cases a with
 | z=>exact h
 | s h _=>exact absurd (Em h) (by simp)⟩
def Ak (ops:Array Oper) (S R:List Nat) (i:Nat):Bool :=
 match ops[i]? with
 | some o=>match o.dst with
  | some d=>Ck o.op && R.all fun j=>S.contains j || (match ops[j]? with
    | some p=>Ck p.op && !(reads ops p).contains d && p.dst != some d && (match p.dst with | some e=>!(reads ops o).contains e | none=>true)
    | none=>true)
  | _=>false
 | none=>false
theorem Ar {vc:List Mon}{R R':List Nat}{i:Nat}(S:List Nat) (N:World→Prop){wt:Bool}{dst:Tmp}{op:Op}{ty:TypeId}{pos:String}{after:Array Edge}{l:Option (Nat×Bool)}{v:Value}(C:hi Q dst) (m:(decide R.Nodup && enabled ops R i && waits ops R S i && Ak ops S R i && S.contains i)=true) (D:R.erase i=R') (n:ops[i]?=some ⟨some dst,op,ty,pos,after,l⟩)
  (G:Region.wanted ⟨some dst,op,ty,pos,after,l⟩ (yielded ops (F fr ds).tmps)=wt) (H:wt=false→v=undef) (o:N w)
  (Wa:wt=true→∀ ds w',N w'→(execOp (F fr ds).eval ⟨some dst,op,ty,pos,after,l⟩).run P w'=.ok (.value v) w') (f:uc fr dst v ua) (h:ff P ops Q ((S,N)::vc) R' ua ds w):ff P ops Q vc R fr ds w:=⟨fun q W r=>by
 simp only [Bool.and_eq_true,decide_eq_true_eq] at m;obtain ⟨⟨⟨⟨s,t⟩,u⟩,g⟩,-⟩:=m;obtain ⟨x,y,rfl,K,z⟩:=r.split s (Em t) t;have A:=Wk.later (S:=S) r s (fun j d=>by
  unfold waits at u;have:=List.all_eq_true.1 u j d;simp only [Bool.or_eq_true,beq_iff_eq,List.any_eq_true,Bool.and_eq_true,List.contains_iff_mem] at this;rcases this with h | ⟨k,k1,L,M⟩
  ·exact .inl h
  ·exact .inr ⟨k,k1,L,M⟩) x y rfl (fun hm=>(z i hm).2.1 rfl)
 unfold Ak at g;simp only [n,Bool.and_eq_true,List.all_eq_true,Bool.or_eq_true,List.contains_iff_mem] at g;unfold uc at f;subst f;subst D;refine KA C n rfl H (N:=N) (S:=S) (v:=v) x y fr ds w vc (fun j d=>⟨A j d,?_⟩) o q g.1 G Wa (h.out ⟨o,q⟩ _ K);obtain ⟨a,b,c⟩:=z j d;have:=g.2 j a;rcases this with h | h
 ·exact absurd h (A j d)
 ·cases f:ops[j]? with
  | none=>trivial
  | some p =>
   rw [f] at h;simp only [Bool.and_eq_true,Bool.not_eq_true',bne_iff_ne,ne_eq] at h;obtain ⟨⟨⟨O,T⟩,U⟩,B⟩:=h;refine ⟨O,T,U,fun e he=>?_⟩;rw [he] at B;simpa using B⟩
theorem Ql {vc:List Mon}{R R':List Nat}{i:Nat}(S:List Nat){dst:Tmp}{op:Op}{ty:TypeId}{pos:String}{after:Array Edge}{v:Value}(a:hi Q dst) (b:(decide R.Nodup && enabled ops R i && waits ops R S i && Ak ops S R i && S.contains i)=true) (c:R.erase i=R') (d:ops[i]?=some ⟨some dst,op,ty,pos,after,none⟩)
  (Wa:Dl P ⟨some dst,op,ty,pos,after,none⟩ fr w v) (e:uc fr dst v ua) (h:ff P ops Q ((S,fun w'=>Dl P ⟨some dst,op,ty,pos,after,none⟩ fr w' v)::vc) R' ua ds w):ff P ops Q vc R fr ds w :=
 Ar S _ (wt:=true) a b c d (cc rfl) (fun h=>by cases h) Wa (fun _ ds w' hw=>hw.out ds) e h
theorem su {vc:List Mon}{R R':List Nat}{i j d:Nat}{b:Bool}(S:List Nat){dst:Tmp}{op:Op}{ty:TypeId}{pos:String}{after:Array Edge}{v:Value}(a:hi Q dst) (c:(decide R.Nodup && enabled ops R i && waits ops R S i && Ak ops S R i && S.contains i)=true) (e:R.erase i=R') (f:ops[i]?=some ⟨some dst,op,ty,pos,after,some (j,b)⟩) (g:(ops[j]?).bind (·.dst)=some d) (k:Vb fr d (.bool b))
  (Wa:Dl P ⟨some dst,op,ty,pos,after,some (j,b)⟩ fr w v) (l:uc fr dst v ua) (h:ff P ops Q ((S,fun w'=>Dl P ⟨some dst,op,ty,pos,after,some (j,b)⟩ fr w' v)::vc) R' ua ds w):ff P ops Q vc R fr ds w :=
 Ar S _ (wt:=true) a c e f (zr rfl g k) (fun h=>by cases h) Wa (fun _ ds w' hw=>hw.out ds) l h
theorem Vg.add {m:Mon}(c:∀ w,m.2 w):∀ (b:List Nat){vc:List Mon}{a:Act}{w:World},Vg P ops Q vc b a w→Vg P ops Q (m::vc) b a w
 | [],_,_,_,h=>h
 | i::b,vc,a,w,h=>by
  have hs:Wh i (m::vc)=m::Wh i vc∨Wh i (m::vc)=Wh i vc:=by
   unfold Wh;rw [List.filter_cons];split
   ·exact .inl rfl
   ·exact .inr rfl
  have key:∀ {a w},Vg P ops Q (Wh i vc) b a w→Vg P ops Q (Wh i (m::vc)) b a w:=fun h=>by
   rcases hs with e | e<;>rw [e]
   ·exact Vg.add c b h
   ·exact h
  have f:∀ {w},Sa (Wh i vc) w→Sa (Wh i (m::vc)) w:=fun h=>by
   rcases hs with e | e<;>rw [e]
   ·exact ⟨c _,h⟩
   ·exact h
  simp only [Vg] at h ⊢;cases d:ops[i]? with
  | none=>rw [d] at h; exact key h
  | some o =>
   rw [d] at h;simp only at h ⊢;split
   ·rename_i hw;rw [if_pos hw] at h;rcases h with h | h
    ·exact .inl (Pz h fun a w ⟨g,j⟩=>⟨f g,key j⟩)
    ·exact .inr h
   ·rename_i hw;rw [if_neg hw] at h;exact key h
theorem hx {vc:List Mon}{m:Mon}{R:List Nat}(b:∀ w,m.2 w) (h:ff P ops Q vc R fr ds w):ff P ops Q (m::vc) R fr ds w:=⟨fun c a d=>Vg.add b a (h.out c.2 a d)⟩
theorem zf {vc:List Mon}{R R':List Nat}{i:Nat}(S:List Nat){dst:Tmp}{op:Op}{ty:TypeId}{pos:String}{after:Array Edge}{v:Value}(a:hi Q dst) (b:(decide R.Nodup && enabled ops R i && waits ops R S i && Ak ops S R i && S.contains i)=true) (c:R.erase i=R') (d:ops[i]?=some ⟨some dst,op,ty,pos,after,none⟩)
  (Wa:Qe P ⟨some dst,op,ty,pos,after,none⟩ fr v) (e:uc fr dst v ua) (h:ff P ops Q vc R' ua ds w):ff P ops Q vc R fr ds w :=
 Ar S (fun _=>True) (wt:=true) a b c d (cc rfl) (fun h=>by cases h) trivial (fun _ ds w' _=>Wa.out ds w') e (hx (fun _=>trivial) h)
theorem Cj {vc:List Mon}{R R':List Nat}{i j d:Nat}{b:Bool}(S:List Nat){dst:Tmp}{op:Op}{ty:TypeId}{pos:String}{after:Array Edge}{v:Value}(a:hi Q dst) (c:(decide R.Nodup && enabled ops R i && waits ops R S i && Ak ops S R i && S.contains i)=true) (e:R.erase i=R') (f:ops[i]?=some ⟨some dst,op,ty,pos,after,some (j,b)⟩) (g:(ops[j]?).bind (·.dst)=some d) (k:Vb fr d (.bool b))
  (Wa:Qe P ⟨some dst,op,ty,pos,after,some (j,b)⟩ fr v) (l:uc fr dst v ua) (h:ff P ops Q vc R' ua ds w):ff P ops Q vc R fr ds w :=
 Ar S (fun _=>True) (wt:=true) a c e f (zr rfl g k) (fun h=>by cases h) trivial (fun _ ds w' _=>Wa.out ds w') l (hx (fun _=>trivial) h)
theorem mf {vc:List Mon}{R R':List Nat}{i j d:Nat}{b qg:Bool}(S:List Nat){dst:Tmp}{op:Op}{ty:TypeId}{pos:String}{after:Array Edge}(a:hi Q dst) (c:(decide R.Nodup && enabled ops R i && waits ops R S i && Ak ops S R i && S.contains i)=true) (e:R.erase i=R') (f:ops[i]?=some ⟨some dst,op,ty,pos,after,some (j,b)⟩) (g:(ops[j]?).bind (·.dst)=some d) (k:Vb fr d (.bool qg)) (l:(qg == b)=false)
  (m:uc fr dst undef ua) (h:ff P ops Q vc R' ua ds w):ff P ops Q vc R fr ds w :=
 Ar S (fun _=>True) (wt:=false) a c e f ((mC rfl g k).trans l) (fun _=>rfl) trivial (fun h=>by cases h) m (hx (fun _=>trivial) h)
theorem XJ {vc:List Mon}{R R':List Nat}{i j d:Nat}{b:Bool}(S:List Nat){dst:Tmp}{op:Op}{ty:TypeId}{pos:String}{after:Array Edge}(a:hi Q dst) (c:(decide R.Nodup && enabled ops R i && waits ops R S i && Ak ops S R i && S.contains i)=true) (e:R.erase i=R') (f:ops[i]?=some ⟨some dst,op,ty,pos,after,some (j,b)⟩) (g:(ops[j]?).bind (·.dst)=some d) (k:Vb fr d undef)
  (l:uc fr dst undef ua) (h:ff P ops Q vc R' ua ds w):ff P ops Q vc R fr ds w :=
 Ar S (fun _=>True) (wt:=false) a c e f (UG rfl g k) (fun _=>rfl) trivial (fun h=>by cases h) l (hx (fun _=>trivial) h)
structure iy (P:Program) (ops:Array Oper) (Q:Exit→Act→World→Prop) (vc:List Mon) (R:List Nat) (fr:List Value) (ds:List Deferred) (w:World):Prop where
 m:Sa vc w
 s:ff P ops Q vc R fr ds w
theorem Sa.s {m:Mon}{l:List Mon}(h:m.2 w) (k:Sa l w):Sa (m::l) w:=⟨h,k⟩
theorem Sa.z:Sa [] w:=trivial
theorem mD {vc:List Mon}{R:List Nat}(c:R≠[]) (h:∀ i ∈ Au ops R,∃ o,ops[i]?=some o∧Region.wanted o (yielded ops (F fr ds).tmps)=true∧Kd P o fr ds w (iy P ops Q (Wh i vc) (R.erase i)) Q):ff P ops Q vc R fr ds w:=⟨fun j d e=>by
 cases e with
 | z=>exact absurd rfl c
 | @s _ d i b f =>
  obtain ⟨o,g,hw,Pa⟩:=h i (List.mem_filter.2 ⟨Em b,b⟩);simp only [Vg,g];rw [if_pos hw];exact .inl (Pa.out _ fun ua ds' w' a=>⟨a.m,a.s.out a.m _ f⟩)⟩
theorem fc {vc Ns':List Mon}{R:List Nat}{i:Nat}{R':List Nat}{o:Oper}(b:Au ops R=[i]) (c:R.erase i=R') (Qa:Wh i vc=Ns') (d:ops[i]?=some o) (hw:Region.wanted o (yielded ops (F fr ds).tmps)=true)
  (h:Kd P o fr ds w (iy P ops Q Ns' R') Q):ff P ops Q vc R fr ds w :=
 mD (by intro e;subst e;cases b) fun k a=>by
  rw [b] at a;simp at a;subst a;exact ⟨_,d,hw,by rw [c,Qa];exact h⟩
theorem SM {vc d f:List Mon}{R:List Nat}{i j:Nat}{g h:List Nat}{a b:Oper}(l:Au ops R=[i,j]) (m:R.erase i=g) (n:R.erase j=h) (o:Wh i vc=d) (p:Wh j vc=f) (Pa:ops[i]?=some a) (q:ops[j]?=some b) (r:Region.wanted a (yielded ops (F fr ds).tmps)=true) (s:Region.wanted b (yielded ops (F fr ds).tmps)=true)
  (t:Kd P a fr ds w (iy P ops Q d g) Q) (u:Kd P b fr ds w (iy P ops Q f h) Q):ff P ops Q vc R fr ds w :=
 mD (by intro e;subst e;cases l) fun k c=>by
  rw [l] at c;simp at c;rcases c with rfl | rfl
  ·exact ⟨_,Pa,r,by rw [m,o];exact t⟩
  ·exact ⟨_,q,s,by rw [n,p];exact u⟩
theorem sE {vc:List Mon}{R:List Nat}{di ei:List Value}{d:Nat}{b:Bool}(a:Vb fr d (.bool b)) (c:uc fr d (.bool true) di) (e:uc fr d (.bool false) ei)
  (f:b=true→ff P ops Q vc R di ds w) (g:¬ b=true→ff P ops Q vc R ei ds w):ff P ops Q vc R fr ds w:=by
 cases b with
 | true=>have:=f rfl; rw [uc.same a c] at this; exact this
 | false=>have:=g (by simp); rw [uc.same a e] at this; exact this
theorem iE {vc:List Mon}{R:List Nat}{di ei:List Value}{d:Nat}{p:Prop}[Decidable p] (a:Vb fr d (.bool (decide p))) (b:uc fr d (.bool true) di) (c:uc fr d (.bool false) ei)
  (e:p→ff P ops Q vc R di ds w) (f:¬ p→ff P ops Q vc R ei ds w):ff P ops Q vc R fr ds w :=
 sE a b c (fun h=>e (of_decide_eq_true h)) (fun h=>f fun g=>h (decide_eq_true g))
end
end Go.Ab
namespace Go.jc
open Go.Ab Go.RowKit
section
variable {P:Program}{Q:Exit→Act→World→Prop}{K:List Value→List Deferred→World→Prop}{fr ua:List Value}{ds:List Deferred}{w:World}
variable {dst:Option Tmp}{ty:TypeId}{pos:String}{after:Array Edge}{g:Option (Nat×Bool)}
variable {w0:World}{rs rs':List mb}{μ I:M}
variable {T:TypeId}{d:TypeDesc}{Hf:Bool}{xd:List Value}{n m:Nat}
theorem YJ {e:TypeId}{S Ed:Nat→Prop}{A:World→Prop}(c:P.underlying T=some (.slice e)) (a:qc P e Hf xd n m) (d:Sep S Ed w0 w rs A)
  (h:∀ b w',w.heap.size≤b→Sep S Ed w0 w' (.ba b e []::rs) A→hh fr dst (.slice (some ⟨b,0,none⟩) 0 0) fun ua=>K ua ds w'):Kd P (Oper.mk dst (.buildSlice T 0 ⟨[]⟩) ty pos after g) fr ds w K Q:=by
 obtain ⟨ua,Qa⟩:=Ji fr dst (.slice (some ⟨w.heap.size,0,none⟩) 0 0);refine Qh (v:=.slice (some ⟨w.heap.size,0,none⟩) 0 0) (w':=w.alloc (.cells ⟨[]⟩ e)) ?_ Qa (h _ _ (Nat.le_refl _) (d.alloc rfl (heap_alloc_new w _)) ua Qa);have f:=a.sizeOf (w:=w);obtain ⟨z,i,hc⟩:=a.zero (w:=w);simp [execOp,Instr.buildSlice,Sem.run_bind,run_underlying c,Result.andThen_ok,f,newRow,Instr.fill];have Ib:Array.range 0=#[]:=Array.eq_empty_of_size_eq_zero (by simp);rw [Ib,Array.map_empty]
theorem bB {t ty:TypeId}{sz bytes:Nat}(b:P.underlying t=some (.slice T)) (e:qc P T Hf xd sz bytes){v:Value}{xs:List Value}(f:Row w v T sz n xs){a:Option Addr}{c:Nat} :
  (Builtin.append_ #[t,t] ty #[v,.slice a 0 c]).run P w=.ok v w:=by
 have d:=e.sizeOf (w:=w);rcases f.2 with ⟨rfl,rfl⟩ | ⟨g,o,cap,cur,rfl,i,h,j,k,l⟩
 ·cases a<;>simp [Builtin.append_,run_underlying b,d,Builtin.lenOf,Builtin.firstCells,loadCells,loadCellsFrom]
 ·cases a<;>simp [Builtin.append_,run_underlying b,d,Builtin.lenOf,Builtin.firstCells,h,storeCells,loadCells,loadCellsFrom]
theorem Qz {α:Type}[Ja α]{t:TypeId}{s x:Operand}{v:Value}{bytes k c:Nat}{a:Option Addr}{cells news:List Value}{l ys j:List α}(n:P.underlying t=some (.slice T)) (p:qc P T Hf xd (Ja.sz α) bytes) (y:xd.length=Ja.sz α)
  (hs:cb fr s v) (q:cb fr x (.slice a ys.length c)) (f:ia μ w0 w rs) (m:Vb rs k (.row v T (Ja.sz α) l.length cells)) (z:ys≠[]→∃ b o,a=some ⟨b,o,none⟩∧Hc μ b o news) (d:na μ news ys) (A:app l ys=some j) (B:bytes≤4096)
  (h:∀ i w' rs',uc rs k (.row i T (Ja.sz α) j.length (cells++news)) rs'→ia μ w0 w' rs'→hh fr dst i fun ua=>K ua ds w') :
  Kd P (Oper.mk dst (.call { callee:=.builtin .append,args:=#[s,x],argTypes:=#[t,t] }) ty pos after g) fr ds w K Q:=by
 obtain ⟨r,C⟩:=Qw A;by_cases u:ys=[]
 ·subst u;obtain rfl:news=[]:=d;have D:Row w v T (Ja.sz α) l.length cells:=f.get m;obtain ⟨ua,Qa⟩:=Ji fr dst v;have F:=h v w rs (by
   have:j.length=l.length:=by simpa using r
   rw [this,List.append_nil];unfold uc;obtain ⟨G,e⟩:=List.getElem?_eq_some_iff.1 (show rs[k]?=_ from m);rw [← e];exact List.set_getElem_self G) f
  refine Qh (v:=v) (w':=w) ?_ Qa (F ua Qa);have ra:=hs ds;have H:=q ds;have d:=bB (P:=P) (ty:=ty) (a:=a) (c:=c) n p D;simp [execOp,resolve,invoke,builtin,ra,H,d]
 ·obtain ⟨b,o,rfl,L⟩:=z u;exact Rp n p (by simp [y,Ja.pos]) hs q f m (L _ f.a) d.len d.wg ⟨C,B⟩ fun i w' rs' M=>h i w' rs' (by rw [r];exact M)
end
end Go.jc
