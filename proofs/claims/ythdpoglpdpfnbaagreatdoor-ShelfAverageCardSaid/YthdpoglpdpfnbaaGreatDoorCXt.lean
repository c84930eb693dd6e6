/- The shelf: texts of Xt. -/
import Derived.Test.YthdpoglpdpfnbaaGreatDoorCWk
import Derived.LoopN
import Derived.KernelRfl
set_option linter.unusedSimpArgs false
set_option linter.unusedVariables false
set_option linter.unusedSectionVars false
namespace Go.hd
open Go.vc Go.RowKit
abbrev M:=World→Prop
def ga (μ I:M):Prop:=∀ w,I w→μ w
theorem ga.r {μ:M}:ga μ μ:=fun _ h=>h
theorem ga.t {a b c:M}(h:ga a b) (k:ga b c):ga a c:=fun w x=>h w (k w x)
abbrev la (μ:M) (w0 w:World) (rs:List Fb):Prop:=Sep (fun _=>False) (fun _=>True) w0 w rs μ
def uc (μ:M) (b o:Nat) (cs:List Value):Prop:=∀ w,μ w→Zi w b o cs
theorem uc.up {μ I:M}{b o:Nat}{cs:List Value}(h:uc μ b o cs) (l:ga μ I):uc I b o cs:=fun w k=>h w (l w k)
class Ua (α:Type) where
 sz:Nat
 pos:0<sz
 cs:M→List Value→α→Prop
 qh:∀ {μ:M}{l:List Value}{x:α},cs μ l x→l.length=sz
 up:∀ {μ I:M}{l:List Value}{x:α},ga μ I→cs μ l x→cs I l x
 Sg:∀ {μ:M}{l:List Value}{x:α},cs μ l x→l.all Md=true
structure Dc {α:Type}(sz:Nat) (R:List Value→α→Prop) (μ:M) (a:Option Addr) (c:Nat) (xs:List α):Prop where
 le:xs.length≤c
 cap:c≤maxLen
 el:xs=[]∨∃ b o,a=some ⟨b,o,none⟩∧∃ g:Nat→List Value,∀ i x,xs[i]?=some x→uc μ b (o+i*sz) (g i)∧R (g i) x
abbrev wa {α:Type}[Ua α] (μ:M) (a:Option Addr) (c:Nat) (xs:List α):Prop:=Dc (Ua.sz α) (Ua.cs μ) μ a c xs
theorem Dc.imp {α:Type}{sz:Nat}{R Pd:List Value→α→Prop}{μ I:M}{a:Option Addr}{c:Nat}{xs:List α}(h:Dc sz R μ a c xs) (l:ga μ I) (f:∀ (i:Nat) (cs:List Value) (x:α),xs[i]?=some x→R cs x→Pd cs x):Dc sz Pd I a c xs where
 le:=h.le
 cap:=h.cap
 el:=by
  rcases h.el with h | ⟨b,o,j,g,e⟩
  ·exact .inl h
  ·exact .inr ⟨b,o,j,g,fun i x d=>⟨(e i x d).1.up l,f i _ x d (e i x d).2⟩⟩
theorem wa.up {α:Type}[Ua α]{μ I:M}{a:Option Addr}{c:Nat}{xs:List α}(h:wa μ a c xs) (l:ga μ I):wa I a c xs:=Dc.imp h l fun _ _ _ _=>Ua.up l
theorem wa.nil {α:Type}[Ua α]{μ:M}{a:Option Addr}:wa (α:=α) μ a 0 []:=⟨by simp,by simp,.inl rfl⟩
theorem wa.len {α:Type}{sz:Nat}{R:List Value→α→Prop}{μ:M}{a:Option Addr}{c:Nat}{xs:List α}(h:Dc sz R μ a c xs):xs.length≤9223372036854775807:=Nat.le_trans h.le h.cap
instance:Ua Int where
 sz:=1
 pos:=by decide
 cs _ l x:=l=[.int .i64 x]
 qh h:=by rw [h];rfl
 up _ h:=h
 Sg h:=by rw [h];rfl
instance:Ua Bool where
 sz:=1
 pos:=by decide
 cs _ l x:=l=[.bool x]
 qh h:=by rw [h];rfl
 up _ h:=h
 Sg h:=by rw [h];rfl
instance {α:Type}[Ua α]:Ua (List α) where
 sz:=1
 pos:=by decide
 cs μ l xs:=∃ a c,l=[.slice a xs.length c]∧wa μ a c xs
 qh h:=by obtain ⟨a,c,rfl,-⟩:=h;rfl
 up l h:=by obtain ⟨a,c,b,d⟩:=h;exact ⟨a,c,b,d.up l⟩
 Sg h:=by obtain ⟨a,c,rfl,-⟩:=h;rfl
instance:Ua (List UInt8) where
 sz:=1
 pos:=by decide
 cs _ l x:=l=[S x]
 qh h:=by rw [h];rfl
 up _ h:=h
 Sg h:=by rw [h];rfl
def i64 (n:Int):Option Int:=if -9223372036854775808≤n∧n≤9223372036854775807 then some n else none
def Cg (n:Int):Int:=IntKind.i64.wrap n
def at_ {α:Type}(l:List α) (i:Int):Option α:=if 0≤i then l[i.toNat]? else none
def cut {α:Type}(l:List α) (i j:Int):Option (List α):=if 0≤i∧i≤j∧j≤l.length then some ((l.take j.toNat).drop i.toNat) else none
def cat (a b:List UInt8):Option (List UInt8):=if a.length+b.length≤9223372036854775807 then some (a++b) else none
def app {α:Type}(l:List α) (xs:List α):Option (List α):=if l.length+xs.length≤4294967296 then some (l++xs) else none
def quo (a b:Int):Option Int:=if b=0 then none else some (Cg (a.tdiv b))
theorem da {α β:Type}{o:Option α}{f:α→Option β}{r:β}(h:Option.bind o f=some r):∃ x,o=some x∧f x=some r:=Option.bind_eq_some_iff.1 h
theorem ve {α:Type}{c:Prop}[Decidable c]{x y:α}{r:α}(hc:c) (h:(if c then x else y)=r):x=r:=by rwa [if_pos hc] at h
theorem nb {α:Type}{c:Prop}[Decidable c]{x y:α}{r:α}(hc:¬ c) (h:(if c then x else y)=r):y=r:=by rwa [if_neg hc] at h
theorem FG {n x:Int}(h:i64 n=some x):x=n∧-9223372036854775808≤n∧n≤9223372036854775807:=by
 unfold i64 at h;split at h
 ·rename_i hc;exact ⟨(Option.some.inj h).symm,hc⟩
 ·cases h
theorem fx {n x:Int}(h:i64 n=some x):IntKind.i64.wrap n=x:=by
 obtain ⟨rfl,a,b⟩:=FG h;exact wr (by omega)
theorem yr {α:Type}{l:List α}{i:Int}{x:α}(h:at_ l i=some x):0≤i∧i<l.length∧l[i.toNat]?=some x:=by
 unfold at_ at h;split at h
 ·rename_i hc;refine ⟨hc,?_,h⟩;have:=(List.getElem?_eq_some_iff.1 h).1;omega
 ·cases h
theorem aq {α:Type}{l ys:List α}{i j:Int}(h:cut l i j=some ys):(0≤i∧i≤j∧j≤l.length)∧ys=(l.take j.toNat).drop i.toNat:=by
 unfold cut at h;split at h
 ·rename_i hc;exact ⟨hc,(Option.some.inj h).symm⟩
 ·cases h
theorem GG {a b c:List UInt8}(h:cat a b=some c):c=a++b∧a.length+b.length≤9223372036854775807:=by
 unfold cat at h;split at h
 ·rename_i hc;exact ⟨(Option.some.inj h).symm,hc⟩
 ·cases h
theorem Qu {α:Type}{a b c:List α}(h:app a b=some c):c=a++b∧a.length+b.length≤4294967296:=by
 unfold app at h;split at h
 ·rename_i hc;exact ⟨(Option.some.inj h).symm,hc⟩
 ·cases h
structure Lj (v:Value) (sz:Nat) (i:Int) (b o:Nat):Prop where
 out:∃ a n c,v=.slice (some ⟨b,a,none⟩) n c∧0≤i∧i<n∧a+i.toNat*sz=o
theorem Dc.elem {α:Type}{sz:Nat}{R:List Value→α→Prop}{μ:M}{a:Option Addr}{c:Nat}{xs:List α}{i:Int}{x:α}(h:Dc sz R μ a c xs) (g:at_ xs i=some x) :
  ∃ b o cs,Lj (.slice a xs.length c) sz i b o∧uc μ b o cs∧R cs x:=by
 obtain ⟨j,k,d⟩:=yr g;rcases h.el with rfl | ⟨b,o,rfl,f,e⟩
 ·simp at d
 ·exact ⟨b,_,f i.toNat,⟨o,_,_,rfl,j,k,rfl⟩,(e _ _ d).1,(e _ _ d).2⟩
def ma {α:Type}[Ua α] (μ:M):List Value→List α→Prop
 | cells,[]=>cells=[]
 | cells,x::l=>∃ cs t,cells=cs++t∧Ua.cs μ cs x∧ma μ t l
theorem ma.len {α:Type}[Ua α]{μ:M}:∀ {l:List α}{cells:List Value},ma μ cells l→cells.length=l.length*Ua.sz α
 | [],cells,h=>by rw [ma] at h; simp [h]
 | x::l,cells,h=>by
  rw [ma] at h;obtain ⟨cs,t,rfl,a,b⟩:=h;simp [ma.len b,Ua.qh a,Nat.add_mul,Nat.add_comm]
theorem ma.up {α:Type}[Ua α]{μ I:M}(a:ga μ I):∀ {l:List α}{cells:List Value},ma μ cells l→ma I cells l
 | [],cells,h=>by rw [ma] at h ⊢; exact h
 | x::l,cells,h=>by
  rw [ma] at h ⊢;obtain ⟨cs,t,b,c,d⟩:=h;exact ⟨cs,t,b,Ua.up a c,ma.up a d⟩
theorem ma.cat {α:Type}[Ua α]{μ:M}{b:List α}{a:List Value}(k:ma μ a b):∀ {l:List α}{cells:List Value},ma μ cells l→ma μ (cells++a) (l++b)
 | [],cells,h=>by rw [ma] at h; subst h; exact k
 | x::l,cells,h=>by
  rw [ma] at h;obtain ⟨cs,t,rfl,c,d⟩:=h;rw [List.cons_append,ma];exact ⟨cs,t++a,by simp,c,ma.cat k d⟩
theorem ma.nil {α:Type}[Ua α]{μ:M}:ma μ [] ([]:List α):=rfl
theorem ma.one {α:Type}[Ua α]{μ:M}{cs:List Value}{x:α}(h:Ua.cs μ cs x):ma μ cs [x]:=⟨cs,[],by simp,h,rfl⟩
theorem ma.cons {α:Type}[Ua α]{μ:M}{cs t:List Value}{x:α}{l:List α}(h:Ua.cs μ cs x) (k:ma μ t l):ma μ (cs++t) (x::l):=⟨cs,t,rfl,h,k⟩
theorem ma.Sg {α:Type}[Ua α]{μ:M}:∀ {l:List α}{cells:List Value},ma μ cells l→cells.all Md=true
 | [],cells,h=>by rw [ma] at h; simp [h]
 | x::l,cells,h=>by
  rw [ma] at h;obtain ⟨cs,t,rfl,a,b⟩:=h;rw [List.all_append,Ua.Sg a,ma.Sg b];rfl
theorem ma.get {α:Type}[Ua α]{μ:M}:∀ {l:List α}{cells:List Value}{i:Nat}{x:α},ma μ cells l→l[i]?=some x→Ua.cs μ ((cells.drop (i*Ua.sz α)).take (Ua.sz α)) x
 | [],cells,i,x,h,a=>by simp at a
 | y::l,cells,i,x,h,a=>by
  rw [ma] at h;obtain ⟨cs,t,rfl,b,c⟩:=h;cases i with
  | zero=>simp at a; subst a; simp [← Ua.qh b]; exact b
  | succ i =>
   simp at a;have:=ma.get c a;have e:(i+1)*Ua.sz α=cs.length+i*Ua.sz α:=by rw [Nat.add_mul,Ua.qh b];omega
   rw [e,← List.drop_drop];simpa using this
theorem wa.cells {α:Type}[Ua α]{μ:M}{a:Option Addr}{c:Nat}:∀ {xs:List α},wa μ a c xs→∃ cells,ma μ cells xs∧(xs≠[]→∃ b o,a=some ⟨b,o,none⟩∧uc μ b o cells):=by
 intro xs h;rcases h.el with rfl | ⟨b,o,rfl,g,p⟩
 ·exact ⟨[],rfl,fun h=>absurd rfl h⟩
 ·have key:∀ (l:List α) (k:Nat),xs.drop k=l→∃ cells,ma μ cells l∧uc μ b (o+k*Ua.sz α) cells:=by
   intro l
   induction l with
   | nil=>intro k _; exact ⟨[],rfl,fun w _ j v d=>by simp at d⟩
   | cons x l q =>
    intro k m;have r:xs[k]?=some x:=by
     have:=congrArg (fun l=>l[0]?) m;simpa using this
    obtain ⟨cells,f,i⟩:=q (k+1) (by rw [← List.tail_drop,m];rfl);obtain ⟨s,n⟩:=p k x r;refine ⟨g k++cells,ma.cons n f,fun w hw j v d=>?_⟩;rcases Nat.lt_or_ge j (g k).length with e | e
    ·rw [List.getElem?_append_left e] at d;exact s w hw j v d
    ·rw [List.getElem?_append_right e] at d;have:=i w hw _ v d;rw [Ua.qh n] at this e;rw [show o+(k+1)*Ua.sz α+(j - Ua.sz α)=o+k*Ua.sz α+j by rw [Nat.add_mul];omega] at this;exact this
  obtain ⟨cells,f,i⟩:=key xs 0 rfl;exact ⟨cells,f,fun _=>⟨b,o,rfl,by simpa using i⟩⟩
section
variable {P:Program}{Q:Exit→Act→World→Prop}{K:List Value→List Deferred→World→Prop}{fr V:List Value}{ds:List Deferred}{w:World}
variable {dst:Option Tmp}{ty:TypeId}{pos:String}{after:Array Edge}{g:Option (Nat×Bool)}
variable {w0:World}{rs rs':List Fb}{μ:M}
variable {T:TypeId}{d:TypeDesc}{Ef:Bool}{Hd:List Value}{n m:Nat}
theorem qd {c:Code}(f:List Nat) (i:f.Nodup) (d:List zb→World→Prop) (j:∀ m w,d m w→opens m=f)
  (h:Fe P c (Exit.then (fun a' w'=>∃ m V,a'=F V ds∧Ie m fr V∧d m w') Q) fr ds w)
  (k:∀ m t w,d m w→Q .normal (F (ji t m fr) ds) w):Fe P c Q fr ds w:=⟨
 wp_mono h.out fun e a w' b=>by
  cases e with
  | normal =>
   obtain ⟨m,V,rfl,n,g⟩:=b;obtain ⟨t',o⟩:=n.ex (by rw [j m w' g];exact i);have:=k m t' w' g;rw [← o] at this;exact this
  | exit id=>exact b
  | goto l=>exact b
  | ret=>exact b
  | panic p=>exact b
  | outgrown=>exact b⟩
theorem Be {c:Code}(f:List Nat) (k:f.Nodup) (b:Nat→List zb→World→Prop) (h:∀ n m w,b n m w→opens m=f) (g:Nat) (m0:List zb) (l:Ie m0 fr fr) (i:b g m0 w)
  (round:∀ n m t w,b n m w→Fe P c (Exit.then (fun a' w'=>∃ d e V,a'=F V ds∧Ie e fr V∧b d e w'∧d<n) Q) (ji t m fr) ds w):Fe P (.loop c) Q fr ds w:=by
 refine QH (α:={ p:Nat×List zb // opens p.2=f }) f k (fun p=>p.1.2) (fun p=>p.2) (fun p w=>b p.1.1 p.1.2 w) (fun p _=>p.1.1) ⟨(g,m0),h g m0 w i⟩ l i fun p t w o=>?_;refine (round p.1.1 p.1.2 t w o).mono (iE fun a w' ⟨d,e,V,q,r,j,s⟩=>⟨⟨(d,e),h d e w' j⟩,V,q,r,j,s⟩)
theorem ch {c:Operand}{x y:Code}{b:Bool}(hc:pb fr c (.bool b)) (a:b=true→Fe P x Q fr ds w) (d:¬ b=true→Fe P y Q fr ds w):Fe P (.cond c x y) Q fr ds w :=
 nz hc a fun h=>d (by rw [h];simp)
theorem Aj {c:Operand}{x y:Code}{b:Bool}(hc:pb fr c (.bool (!b))) (a:¬ b=true→Fe P x Q fr ds w) (d:b=true→Fe P y Q fr ds w):Fe P (.cond c x y) Q fr ds w :=
 nz hc (fun h=>a (by simpa using h)) fun h=>d (by simpa using h)
theorem kC {ops:Array Oper}{l:List Oper}{Wg Xg:List Value}{d:Nat}{b:Bool}(a:zc fr d (.bool b)) (c:tc fr d (.bool true) Wg) (e:tc fr d (.bool false) Xg)
  (f:b=true→Kf P ops Q l Wg ds w) (g:¬ b=true→Kf P ops Q l Xg ds w):Kf P ops Q l fr ds w:=oz a c e f fun h=>g (by rw [h];simp)
theorem ev {ops:Array Oper}{l:List Oper}{Wg Xg:List Value}{d:Nat}{b:Bool}(a:zc fr d (.bool (!b))) (c:tc fr d (.bool true) Wg) (e:tc fr d (.bool false) Xg)
  (f:¬ b=true→Kf P ops Q l Wg ds w) (g:b=true→Kf P ops Q l Xg ds w):Kf P ops Q l fr ds w:=oz a c e (fun h=>f (by simpa using h)) fun h=>g (by simpa using h)
inductive Uc:List Fb→Nat→List Fb→Prop where
 | z {rs:List Fb}:Uc rs 0 rs
 | s {a r:Fb} {rs rs':List Fb} {k:Nat} (h:Uc rs k (r::rs')):Uc (a::rs) (k+1) (r::a::rs')
theorem Uc.perm {k:Nat}{rs rs':List Fb}(h:Uc rs k rs'):rs.Perm rs':=by
 induction h with
 | z=>exact .refl _
 | s _ a=>exact (a.cons _).trans (.swap _ _ _)
theorem _root_.Go.vc.Sep.ca {k:Nat}{S Qd:Nat→Prop}{A:World→Prop}(h:Sep S Qd w0 w rs A) (a:Uc rs k rs'):Sep S Qd w0 w rs' A where
 keeps:=h.keeps
 all r d:=h.all r (a.perm.mem_iff.2 d)
 ki:=(a.perm.filterMap _).nodup_iff.1 h.ki
 new b e:=h.new b ((a.perm.filterMap _).mem_iff.2 e)
 Di:=h.Di.mono fun k _ c=>⟨c.1,fun hm=>c.2 ((a.perm.filterMap Fb.block).mem_iff.2 hm)⟩
theorem _root_.Go.vc.Sep.vv {r:Fb}{B:World→Prop}(h:la μ w0 w (r::rs)) (a:∀ w,r.holds w→B w):la (fun w=>μ w∧B w) w0 w rs :=
 Sep.freeze h (d0 (α:=Fb)) ia.z (fun _ _=>.inl trivial) a
theorem _root_.Go.vc.Sep.Vh {α:Type}[Ua α]{v:Value}{cells:List Value}{l:List α}(h:la μ w0 w (.row v T (Ua.sz α) n cells::rs)) (p:ma μ cells l) (e:l.length=n) :
  ∃ I a c,v=.slice a l.length c∧ga μ I∧wa I a c l∧la I w0 w rs:=by
 have q:Row w v T (Ua.sz α) n cells:=h.all _ (List.mem_cons_self ..);have f:=Sep.vv (B:=fun w=>Row w v T (Ua.sz α) n cells) h fun w hw=>hw;have hle:ga μ (fun w=>μ w∧Row w v T (Ua.sz α) n cells):=fun w hw=>hw.1;rcases q.2 with ⟨rfl,rfl⟩ | ⟨g,o,cap,cur,rfl,C,r,s,D,F⟩
 ·obtain rfl:=List.eq_nil_of_length_eq_zero e;exact ⟨_,none,0,rfl,hle,wa.nil,f⟩
 ·subst e;refine ⟨_,some ⟨g,o,none⟩,cap,rfl,hle,⟨r,s,.inr ⟨g,o,rfl,fun i=>(cells.drop (i*Ua.sz α)).take (Ua.sz α),fun i x k=>⟨?_,?_⟩⟩⟩,f⟩
  ·intro G t j u d;obtain ⟨-,y⟩:=t;have z:0<l.length:=by have:=(List.getElem?_eq_some_iff.1 k).1;omega
   obtain ⟨b,H,c,m,hc⟩:=y.Ho z;simp at m;obtain ⟨⟨rfl,rfl⟩,rfl⟩:=m;have A:j<Ua.sz α:=by
    have:=(List.getElem?_eq_some_iff.1 d).1;simp at this;omega
   rw [List.getElem?_take_of_lt A,List.getElem?_drop] at d;have:=hc _ u d;rw [← Nat.add_assoc] at this;exact this
  ·exact Ua.up hle (p.get k)
theorem _root_.Go.vc.Sep.ah {α:Type}[Ua α]{b:Nat}{cells:List Value}{l:List α}(h:la μ w0 w (.ba b T cells::rs)) (c:ma μ cells l) (hlen:l.length≤maxLen) :
  ∃ I,ga μ I∧wa I (some ⟨b,0,none⟩) l.length l∧la I w0 w rs:=by
 have d:=Sep.vv (B:=fun w=>cj w b T cells) h fun w hw=>hw;have hle:ga μ (fun w=>μ w∧cj w b T cells):=fun w hw=>hw.1;refine ⟨_,hle,⟨Nat.le_refl _,hlen,.inr ⟨b,0,rfl,fun i=>(cells.drop (i*Ua.sz α)).take (Ua.sz α),fun i x e=>⟨?_,Ua.up hle (c.get e)⟩⟩⟩,d⟩;intro k f j u a;have g:j<Ua.sz α:=by
  have:=(List.getElem?_eq_some_iff.1 a).1;simp at this;omega
 rw [List.getElem?_take_of_lt g,List.getElem?_drop] at a;have:=f.2.cells _ u a;rw [Nat.zero_add] at this ⊢;exact this
theorem _root_.Go.vc.Sep.Pl {b:Nat}{cells:List Value}(h:la μ w0 w (.ba b T cells::rs)):∃ I,ga μ I∧uc I b 0 cells∧la I w0 w rs :=
 ⟨_,fun _ hw=>hw.1,fun _ hw=>hw.2.cells,Sep.vv (B:=fun w=>cj w b T cells) h fun _ hw=>hw⟩
theorem _root_.Go.vc.Sep.zn {sz:Nat}{b k:Nat}{cells:List Value}{S Qd:Nat→Prop}{A:World→Prop}(h:Sep S Qd w0 w rs A) (c:zc rs k (.ba b T cells)) (a:cells.length=n*sz) (hlen:n≤maxLen)
  (d:tc rs k (.row (.slice (some ⟨b,0,none⟩) n n) T sz n cells) rs'):Sep S Qd w0 w rs' A:=by
 have e:cj w b T cells:=h.get c;refine h.put (b:=b) c rfl rfl d ⟨a,.inr ⟨b,0,n,⟨cells⟩,rfl,e,Nat.le_refl _,hlen,by simp [a],by simp [← a]⟩⟩ (di.refl _)
theorem Vb {x y:Operand}{v:Value}{b o sz:Nat}{k:IntKind}{i:Int}{e:TypeId}(a:P.underlying T=some (.slice e)) (d:Mc P e Ef Hd sz m) (f:pb fr x v) (h:pb fr y (.int k i)) (he:Lj v sz i b o):cf P (Oper.mk dst (.indexAddr T x y) ty pos after g) fr ((.pointer (some ⟨b,o,none⟩))):=by
 obtain ⟨q,n,c,rfl,j,l,p⟩:=he.out;exact Ir a d f h ⟨j,l⟩ p
theorem od {x y:Operand}{t t':TypeId}{a b c:Int}(d:pb fr x (.int .i64 a)) (e:pb fr y (.int .i64 b)) (h:i64 (a+b)=some c):cf P (Oper.mk dst (.binOp .add t x y t') ty pos after g) fr ((.int .i64 c)):=ly d e (fx h)
theorem HG {x y:Operand}{t t':TypeId}{a b c:Int}(d:pb fr x (.int .i64 a)) (e:pb fr y (.int .i64 b)) (h:i64 (a+b)=some c) (f:tf fr dst ((.int .i64 c)) V) (k:K V ds w):Nd P (Oper.mk dst (.binOp .add t x y t') ty pos after g) fr ds w K Q:=va (od d e h) f k
theorem Og {x y:Operand}{t t':TypeId}{a b c:Int}(d:pb fr x (.int .i64 a)) (e:pb fr y (.int .i64 b)) (h:i64 (a - b)=some c):cf P (Oper.mk dst (.binOp .sub t x y t') ty pos after g) fr ((.int .i64 c)):=VB d e (fx h)
theorem IG {x y:Operand}{t t':TypeId}{a b c:Int}(d:pb fr x (.int .i64 a)) (e:pb fr y (.int .i64 b)) (h:i64 (a - b)=some c) (f:tf fr dst ((.int .i64 c)) V) (k:K V ds w):Nd P (Oper.mk dst (.binOp .sub t x y t') ty pos after g) fr ds w K Q:=va (Og d e h) f k
theorem JG {x y:Operand}{t t':TypeId}{a b c:Int}(d:pb fr x (.int .i64 a)) (e:pb fr y (.int .i64 b)) (h:i64 (a*b)=some c):cf P (Oper.mk dst (.binOp .mul t x y t') ty pos after g) fr ((.int .i64 c)):=my d e (fx h)
theorem An {a b c:Int}(h:quo a b=some c):b≠0∧IntKind.i64.wrap (a.tdiv b)=c:=by
 unfold quo at h;split at h
 ·cases h
 ·rename_i d;exact ⟨d,Option.some.inj h⟩
theorem KG {x y:Operand}{t:TypeId}{k:IntKind}{a:List UInt8}{i:Int}{c:UInt8}(b:P.underlying t=some .string) (d:pb fr x (S a)) (e:pb fr y (.int k i)) (h:at_ a i=some c):cf P (Oper.mk dst (.index t x y) ty pos after g) fr (.int .u8 c.toNat):=BG b d e (yr h).1 (yr h).2.2
theorem Ru {x y:Operand}{t:TypeId}{k:IntKind}{a:List UInt8}{i:Int}{c:UInt8}(b:P.underlying t=some .string) (d:pb fr x (S a)) (e:pb fr y (.int k i)) (h:at_ a i=some c) (f:tf fr dst (.int .u8 c.toNat) V) (kk:K V ds w):Nd P (Oper.mk dst (.index t x y) ty pos after g) fr ds w K Q:=va (KG b d e h) f kk
theorem EB {x y:Operand}{t t':TypeId}{a b c:List UInt8}(d:pb fr x (S a)) (e:pb fr y (S b)) (h:cat a b=some c):cf P (Oper.mk dst (.binOp .add t x y t') ty pos after g) fr (S c):=by
 obtain ⟨rfl,f⟩:=GG h;exact WH d e f
structure Wn (v:Value) (sz:Nat) (i j:Option Int) (b:Value):Prop where
 out:∃ a n c,v=.slice a n c∧0≤i.getD 0∧i.getD 0≤j.getD n∧j.getD n≤c∧b=.slice (if c=(i.getD 0).toNat then a else a.map (·.add ((i.getD 0).toNat*sz))) ((j.getD n).toNat - (i.getD 0).toNat) (c - (i.getD 0).toNat)
inductive Cv (fr:List Value):Option Operand→Option Int→Prop where
 | n:Cv fr none none
 | s {x:Operand} {i:Int} (h:pb fr x (.int .i64 i)):Cv fr (some x) (some i)
theorem nj {x:Operand}{wj up:Option Operand}{v p:Value}{sz:Nat}{i j:Option Int}{e:TypeId}(f:P.underlying T=some (.slice e)) (k:Mc P e Ef Hd sz m) (l:pb fr x v) (fb:Cv fr wj i) (q:Cv fr up j) (he:Wn v sz i j p):cf P (Oper.mk dst (.slice T x wj up none) ty pos after g) fr p:=by
 obtain ⟨a,n,c,rfl,o,b,d,rfl⟩:=he.out;refine ⟨fun ds w=>?_⟩;cases fb with
 | n =>
  cases q with
  | n =>
   simp at b d;simp [execOp,l ds,Instr.sliceAt,Instr.slice,run_underlying f,Instr.sliceBounds,k.sizeOf];try rfl
  | s h =>
   rename_i y i;simp at b d;have qa:i≤(c:Int):=d;simp [execOp,l ds,h ds,Instr.sliceAt,Instr.slice,run_underlying f,Instr.sliceBounds,Instr.sliceBound,asIntOf,k.sizeOf,b,qa];try rfl
 | s h =>
  rename_i y i;cases q with
  | n =>
   simp at o b d;simp [execOp,l ds,h ds,Instr.sliceAt,Instr.slice,run_underlying f,Instr.sliceBounds,Instr.sliceBound,asIntOf,k.sizeOf,o,b];try rfl
  | s r =>
   rename_i u i';simp at o b d;have qa:0≤i':=by omega
   have t:(i'.toNat:Int)=i':=by omega
   simp [execOp,l ds,h ds,r ds,Instr.sliceAt,Instr.slice,run_underlying f,Instr.sliceBounds,Instr.sliceBound,asIntOf,k.sizeOf,o,b,d,qa,t];try rfl
theorem wa.cm {α:Type}[Ua α]{μ:M}{a:Option Addr}{c:Nat}{xs ys:List α}{i j:Option Int}(h:wa μ a c xs) (g:cut xs (i.getD 0) (j.getD xs.length)=some ys) :
  ∃ a' c',Wn (.slice a xs.length c) (Ua.sz α) i j (.slice a' ys.length c')∧wa μ a' c' ys:=by
 obtain ⟨⟨e,l,p⟩,rfl⟩:=aq g;have hle:=h.le;refine ⟨(if c=(i.getD 0).toNat then a else a.map (·.add ((i.getD 0).toNat*Ua.sz α))),c - (i.getD 0).toNat,⟨a,xs.length,c,rfl,e,l,by omega,?_⟩,?_⟩
 ·rw [show ((xs.take (j.getD ↑xs.length).toNat).drop (i.getD 0).toNat).length=(j.getD ↑xs.length).toNat - (i.getD 0).toNat by simp;omega]
 ·refine ⟨by simp;omega,by have:=h.cap;omega,?_⟩;rcases h.el with rfl | ⟨b,o,rfl,f,m⟩
  ·left;simp
  ·by_cases hc:c=(i.getD 0).toNat
   ·left;rw [List.drop_eq_nil_iff];simp;omega
   ·right;rw [if_neg hc];refine ⟨b,o+(i.getD 0).toNat*Ua.sz α,by simp [Zj],fun k=>f ((i.getD 0).toNat+k),fun k x d=>?_⟩;rw [List.getElem?_drop] at d;have n:(i.getD 0).toNat+k<(j.getD ↑xs.length).toNat:=by
     have:=(List.getElem?_eq_some_iff.1 d).1;simp at this;omega
    rw [List.getElem?_take_of_lt n] at d;have:=m _ x d;rw [Nat.add_mul,← Nat.add_assoc] at this;exact this
end
end Go.hd
namespace Go.hd
open Go.vc Go.RowKit
section
variable {P:Program}{Q:Exit→Act→World→Prop}{K:List Value→List Deferred→World→Prop}{fr V:List Value}{ds:List Deferred}{w:World}
variable {dst:Option Tmp}{ty:TypeId}{pos:String}{after:Array Edge}{g:Option (Nat×Bool)}
variable {w0:World}{rs rs':List Fb}{μ:M}
variable {T:TypeId}{d:TypeDesc}{Ef:Bool}{Hd:List Value}{n m:Nat}
theorem gx {x wj:Operand}{t:TypeId}{a b:List UInt8}{i:Int}(c:P.underlying t=some .string) (d:pb fr x (S a)) (fb:pb fr wj (.int .i64 i)) (h:cut a i a.length=some b):cf P (Oper.mk dst (.slice t x (some wj) none none) ty pos after g) fr (S b):=by
 obtain ⟨⟨e,f,j⟩,rfl⟩:=aq h;have:=yF (dst:=dst) (ty:=ty) (pos:=pos) (after:=after) (g:=g) c d fb ⟨e,f⟩;simpa using this
theorem hx {x up:Operand}{t:TypeId}{a b:List UInt8}{j:Int}(c:P.underlying t=some .string) (d:pb fr x (S a)) (e:pb fr up (.int .i64 j)) (h:cut a 0 j=some b):cf P (Oper.mk dst (.slice t x none (some up) none) ty pos after g) fr (S b):=by
 obtain ⟨⟨k,f,i⟩,rfl⟩:=aq h;have:=zF (dst:=dst) (ty:=ty) (pos:=pos) (after:=after) (g:=g) c d e ⟨f,i⟩;simpa using this
theorem _root_.Go.vc.Row.Md {v:Value}{sz n:Nat}{xs:List Value}(h:Row w v T sz n xs):Md v=true:=by
 rcases h.2 with ⟨rfl,_⟩ | ⟨g,o,cap,cur,rfl,_⟩<;>rfl
theorem Dm {f:Nat}{xs ys:List Operand}{vs us:List Value}(a:Ak fr xs vs) (hu:Ak fr ys us):cf P (Oper.mk dst (.makeFunc (.func f) ⟨xs⟩ ⟨ys⟩) ty pos after g) fr (.func (.func f) ⟨vs⟩ ⟨us⟩):=by
 refine ⟨fun ds w=>?_⟩;have b:=a ds;have c:=hu ds;simp [execOp,Instr.makeFunc,b,c]
theorem ma.app {α:Type}[Ua α]{cells news:List Value}{l xs a:List α}(h:ma μ cells l) (k:ma μ news xs) (g:app l xs=some a):ma μ (cells++news) a:=by
 obtain ⟨rfl,-⟩:=Qu g;exact ma.cat k h
theorem zu {α:Type}{l xs a:List α}(g:app l xs=some a):a.length=l.length+xs.length∧l.length+xs.length≤4294967296:=by
 obtain ⟨rfl,h⟩:=Qu g;exact ⟨by simp,h⟩
theorem Ph {α:Type}[Ua α]{t:TypeId}{s x:Operand}{v:Value}{bytes k b d c:Nat}{cells news:List Value}{l ys e:List α}(i:P.underlying t=some (.slice T)) (j:Mc P T Ef Hd (Ua.sz α) bytes) (m:Hd.length=Ua.sz α)
  (n:pb fr s v) (o:pb fr x (.slice (some ⟨b,0,none⟩) d c)) (p:la μ w0 w rs) (q:zc rs k (.row v T (Ua.sz α) l.length cells)) (r:Zi w b 0 news) (f:ma μ news ys) (hm:ys.length=d) (u:app l ys=some e) (y:bytes≤4096)
  (h:∀ a w' rs',tc rs k (.row a T (Ua.sz α) e.length (cells++news)) rs'→la μ w0 w' rs'→Qg fr dst a fun V=>K V ds w') :
  Nd P (Oper.mk dst (.call { callee:=.builtin .append,args:=#[s,x],argTypes:=#[t,t] }) ty pos after g) fr ds w K Q:=by
 obtain ⟨z,A⟩:=zu u;subst hm;refine Xq i j (by simp [m,Ua.pos]) n o p q r f.len f.Sg ⟨A,y⟩ fun a w' rs' B=>h a w' rs' (by rw [z];exact B)
theorem _root_.Go.vc.Zi.Je {b o:Nat}{cs:List Value}(h:Zi w b o cs) (i n:Nat):Zi w b (o+i) ((cs.drop i).take n):=by
 intro j v a;have c:j<n:=by
  have:=(List.getElem?_eq_some_iff.1 a).1;simp at this;omega
 rw [List.getElem?_take_of_lt c,List.getElem?_drop] at a;have:=h _ v a;rw [← Nat.add_assoc] at this;exact this
theorem uc.Je {b o:Nat}{cs:List Value}(h:uc μ b o cs) (i n:Nat):uc μ b (o+i) ((cs.drop i).take n):=fun w hw=>(h w hw).Je i n
theorem Qb {x y:Operand}{b k:Nat}{cs vs:List Value}(d:Mc P T Ef Hd n m) (e:pb fr x (.pointer (some ⟨b,0,none⟩))) (f:pb fr y (.agg ⟨vs⟩)) (i:vs.length=n) (j:vs.all Md=true)
  {S Qd:Nat→Prop}{A:World→Prop}(l:Sep S Qd w0 w rs A) {a:TypeId}(o:zc rs k (.ba b a cs)) (he:cs.length=n) (p:tc rs k (.ba b a vs) rs')
  (sb:tf fr dst undef V) (h:∀ w',Sep S Qd w0 w' rs' A→K V ds w'):Nd P (Oper.mk dst (.store T x y) ty pos after g) fr ds w K Q:=by
 have key:∀ (vs cs pre:List Value),vs.length=cs.length→jf (pre++cs) pre.length vs (pre++vs):=by
  intro vs
  induction vs with
  | nil=>intro cs pre h; cases cs with
   | nil=>exact .z
   | cons c cs=>simp at h
  | cons v vs q =>
   intro cs pre h;cases cs with
   | nil=>simp at h
   | cons c cs =>
    refine .s (cs1:=pre++v::cs) (by unfold tc;simp) (by simp) ?_;have:=q cs (pre++[v]) (by simpa using h);simpa using this
 exact yo d e f rfl i j l o (by simpa using key vs cs [] (by omega)) (by simp) p sb h
theorem zm {pl:Array (Nat×Nat)}{xs:List (Nat×Operand)}{out:List Value}(a:Mc P T Ef Hd n m) (b:fh P T pl) (c:Ma fr pl Hd xs out):cf P (Oper.mk dst (.build T ⟨xs⟩) ty pos after g) fr (.agg ⟨out⟩):=by
 refine ⟨fun ds w=>?_⟩;obtain ⟨z,d,hc⟩:=a.zero (w:=w);have e:=c.run (ds:=ds);obtain ⟨k,f,h⟩:=b.out;have hm:=h w;have j:((⟨xs⟩:Array (Nat×Operand)).map fun (i,x)=>(i,(F fr ds).eval x)).toList=xs.map fun p=>(p.1,(F fr ds).eval p.2):=by simp
 unfold execOp;simp only [Instr.build,Sem.run_bind,d,Result.andThen_ok,run_underlying f];rw [hm];simp only [Result.andThen_ok,hc,j];rw [e];simp
end
end Go.hd
namespace Go.vc
theorem na {α:Type}{a0 O a2 a3 a4 a5 Zb Ec lb a9 v:α}{l:List α}{n:Nat}(h:zc l n v):zc (a0::O::a2::a3::a4::a5::Zb::Ec::lb::a9::l) (n+10) v:=h
theorem Ra {α:Type}{a0 O a2 a3 a4 a5 Zb Ec lb a9 v:α}{l a:List α}{n:Nat}(h:tc l n v a):tc (a0::O::a2::a3::a4::a5::Zb::Ec::lb::a9::l) (n+10) v (a0::O::a2::a3::a4::a5::Zb::Ec::lb::a9::a):=by unfold tc at *;subst h;rfl
theorem ra {α:Type}{a0 O a2 a3 a4 a5 Zb Ec lb a9 Zd fc a12 a pc pe b ld c Td v:α}{l:List α}{n:Nat}(h:zc l n v):zc (a0::O::a2::a3::a4::a5::Zb::Ec::lb::a9::Zd::fc::a12::a::pc::pe::b::ld::c::Td::l) (n+20) v:=h
theorem cb {α:Type}{a0 O a2 a3 a4 a5 Zb Ec lb a9 Zd fc a12 a pc pe b ld c Td v:α}{l d:List α}{n:Nat}(h:tc l n v d):tc (a0::O::a2::a3::a4::a5::Zb::Ec::lb::a9::Zd::fc::a12::a::pc::pe::b::ld::c::Td::l) (n+20) v (a0::O::a2::a3::a4::a5::Zb::Ec::lb::a9::Zd::fc::a12::a::pc::pe::b::ld::c::Td::d):=by unfold tc at *;subst h;rfl
theorem pa {α:Type}{a0 O a2 a3 a4 a5 Zb Ec lb a9 Zd fc a12 a pc pe b ld c Td a20 a21 a22 a23 a24 a25 a26 ie a28 d v:α}{l:List α}{n:Nat}(h:zc l n v):zc (a0::O::a2::a3::a4::a5::Zb::Ec::lb::a9::Zd::fc::a12::a::pc::pe::b::ld::c::Td::a20::a21::a22::a23::a24::a25::a26::ie::a28::d::l) (n+30) v:=h
theorem kb {α:Type}{a0 O a2 a3 a4 a5 Zb Ec lb a9 Zd fc a12 a pc pe b ld c Td a20 a21 a22 a23 a24 a25 a26 ie a28 d v:α}{l e:List α}{n:Nat}(h:tc l n v e):tc (a0::O::a2::a3::a4::a5::Zb::Ec::lb::a9::Zd::fc::a12::a::pc::pe::b::ld::c::Td::a20::a21::a22::a23::a24::a25::a26::ie::a28::d::l) (n+30) v (a0::O::a2::a3::a4::a5::Zb::Ec::lb::a9::Zd::fc::a12::a::pc::pe::b::ld::c::Td::a20::a21::a22::a23::a24::a25::a26::ie::a28::d::e):=by unfold tc at *;subst h;rfl
theorem Aa {α:Type}{a0 O a2 a3 a4 a5 Zb Ec lb a9 Zd fc a12 a pc pe b ld c Td a20 a21 a22 a23 a24 a25 a26 ie a28 d He a31 e f g i Se a37 j k v:α}{l:List α}{n:Nat}(h:zc l n v):zc (a0::O::a2::a3::a4::a5::Zb::Ec::lb::a9::Zd::fc::a12::a::pc::pe::b::ld::c::Td::a20::a21::a22::a23::a24::a25::a26::ie::a28::d::He::a31::e::f::g::i::Se::a37::j::k::l) (n+40) v:=h
theorem Eb {α:Type}{a0 O a2 a3 a4 a5 Zb Ec lb a9 Zd fc a12 a pc pe b ld c Td a20 a21 a22 a23 a24 a25 a26 ie a28 d He a31 e f g i Se a37 j k v:α}{l m:List α}{n:Nat}(h:tc l n v m):tc (a0::O::a2::a3::a4::a5::Zb::Ec::lb::a9::Zd::fc::a12::a::pc::pe::b::ld::c::Td::a20::a21::a22::a23::a24::a25::a26::ie::a28::d::He::a31::e::f::g::i::Se::a37::j::k::l) (n+40) v (a0::O::a2::a3::a4::a5::Zb::Ec::lb::a9::Zd::fc::a12::a::pc::pe::b::ld::c::Td::a20::a21::a22::a23::a24::a25::a26::ie::a28::d::He::a31::e::f::g::i::Se::a37::j::k::m):=by unfold tc at *;subst h;rfl
theorem Ka {α:Type}{a0 O a2 a3 a4 a5 Zb Ec lb a9 Zd fc a12 a pc pe b ld c Td a20 a21 a22 a23 a24 a25 a26 ie a28 d He a31 e f g i Se a37 j k a40 m o p q r a46 s t a49 v:α}{l:List α}{n:Nat}(h:zc l n v):zc (a0::O::a2::a3::a4::a5::Zb::Ec::lb::a9::Zd::fc::a12::a::pc::pe::b::ld::c::Td::a20::a21::a22::a23::a24::a25::a26::ie::a28::d::He::a31::e::f::g::i::Se::a37::j::k::a40::m::o::p::q::r::a46::s::t::a49::l) (n+50) v:=h
theorem jc {α:Type}{a0 O a2 a3 a4 a5 Zb Ec lb a9 Zd fc a12 a pc pe b ld c Td a20 a21 a22 a23 a24 a25 a26 ie a28 d He a31 e f g i Se a37 j k a40 m o p q r a46 s t a49 v:α}{l u:List α}{n:Nat}(h:tc l n v u):tc (a0::O::a2::a3::a4::a5::Zb::Ec::lb::a9::Zd::fc::a12::a::pc::pe::b::ld::c::Td::a20::a21::a22::a23::a24::a25::a26::ie::a28::d::He::a31::e::f::g::i::Se::a37::j::k::a40::m::o::p::q::r::a46::s::t::a49::l) (n+50) v (a0::O::a2::a3::a4::a5::Zb::Ec::lb::a9::Zd::fc::a12::a::pc::pe::b::ld::c::Td::a20::a21::a22::a23::a24::a25::a26::ie::a28::d::He::a31::e::f::g::i::Se::a37::j::k::a40::m::o::p::q::r::a46::s::t::a49::u):=by unfold tc at *;subst h;rfl
theorem Bc {α:Type}{a0 O a2 a3 a4 a5 Zb Ec lb a9 Zd fc a12 a pc pe b ld c Td a20 a21 a22 a23 a24 a25 a26 ie a28 d He a31 e f g i Se a37 j k a40 m o p q r a46 s t a49 u a51 w a53 x y z A B a59 v:α}{l:List α}{n:Nat}(h:zc l n v):zc (a0::O::a2::a3::a4::a5::Zb::Ec::lb::a9::Zd::fc::a12::a::pc::pe::b::ld::c::Td::a20::a21::a22::a23::a24::a25::a26::ie::a28::d::He::a31::e::f::g::i::Se::a37::j::k::a40::m::o::p::q::r::a46::s::t::a49::u::a51::w::a53::x::y::z::A::B::a59::l) (n+60) v:=h
theorem se {α:Type}{a0 O a2 a3 a4 a5 Zb Ec lb a9 Zd fc a12 a pc pe b ld c Td a20 a21 a22 a23 a24 a25 a26 ie a28 d He a31 e f g i Se a37 j k a40 m o p q r a46 s t a49 u a51 w a53 x y z A B a59 v:α}{l C:List α}{n:Nat}(h:tc l n v C):tc (a0::O::a2::a3::a4::a5::Zb::Ec::lb::a9::Zd::fc::a12::a::pc::pe::b::ld::c::Td::a20::a21::a22::a23::a24::a25::a26::ie::a28::d::He::a31::e::f::g::i::Se::a37::j::k::a40::m::o::p::q::r::a46::s::t::a49::u::a51::w::a53::x::y::z::A::B::a59::l) (n+60) v (a0::O::a2::a3::a4::a5::Zb::Ec::lb::a9::Zd::fc::a12::a::pc::pe::b::ld::c::Td::a20::a21::a22::a23::a24::a25::a26::ie::a28::d::He::a31::e::f::g::i::Se::a37::j::k::a40::m::o::p::q::r::a46::s::t::a49::u::a51::w::a53::x::y::z::A::B::a59::C):=by unfold tc at *;subst h;rfl
theorem Hc {α:Type}{a0 O a2 a3 a4 a5 Zb Ec lb a9 Zd fc a12 a pc pe b ld c Td a20 a21 a22 a23 a24 a25 a26 ie a28 d He a31 e f g i Se a37 j k a40 m o p q r a46 s t a49 u a51 w a53 x y z A B a59 C D F G H K M N P Q v:α}{l:List α}{n:Nat}(h:zc l n v):zc (a0::O::a2::a3::a4::a5::Zb::Ec::lb::a9::Zd::fc::a12::a::pc::pe::b::ld::c::Td::a20::a21::a22::a23::a24::a25::a26::ie::a28::d::He::a31::e::f::g::i::Se::a37::j::k::a40::m::o::p::q::r::a46::s::t::a49::u::a51::w::a53::x::y::z::A::B::a59::C::D::F::G::H::K::M::N::P::Q::l) (n+70) v:=h
theorem Of {α:Type}{a0 O a2 a3 a4 a5 Zb Ec lb a9 Zd fc a12 a pc pe b ld c Td a20 a21 a22 a23 a24 a25 a26 ie a28 d He a31 e f g i Se a37 j k a40 m o p q r a46 s t a49 u a51 w a53 x y z A B a59 C D F G H K M N P Q v:α}{l R:List α}{n:Nat}(h:tc l n v R):tc (a0::O::a2::a3::a4::a5::Zb::Ec::lb::a9::Zd::fc::a12::a::pc::pe::b::ld::c::Td::a20::a21::a22::a23::a24::a25::a26::ie::a28::d::He::a31::e::f::g::i::Se::a37::j::k::a40::m::o::p::q::r::a46::s::t::a49::u::a51::w::a53::x::y::z::A::B::a59::C::D::F::G::H::K::M::N::P::Q::l) (n+70) v (a0::O::a2::a3::a4::a5::Zb::Ec::lb::a9::Zd::fc::a12::a::pc::pe::b::ld::c::Td::a20::a21::a22::a23::a24::a25::a26::ie::a28::d::He::a31::e::f::g::i::Se::a37::j::k::a40::m::o::p::q::r::a46::s::t::a49::u::a51::w::a53::x::y::z::A::B::a59::C::D::F::G::H::K::M::N::P::Q::R):=by unfold tc at *;subst h;rfl
theorem Ub {α:Type}{a0 O a2 a3 a4 a5 Zb Ec lb a9 Zd fc a12 a pc pe b ld c Td a20 a21 a22 a23 a24 a25 a26 ie a28 d He a31 e f g i Se a37 j k a40 m o p q r a46 s t a49 u a51 w a53 x y z A B a59 C D F G H K M N P Q a70 R a72 S T a75 a76 U W X v:α}{l:List α}{n:Nat}(h:zc l n v):zc (a0::O::a2::a3::a4::a5::Zb::Ec::lb::a9::Zd::fc::a12::a::pc::pe::b::ld::c::Td::a20::a21::a22::a23::a24::a25::a26::ie::a28::d::He::a31::e::f::g::i::Se::a37::j::k::a40::m::o::p::q::r::a46::s::t::a49::u::a51::w::a53::x::y::z::A::B::a59::C::D::F::G::H::K::M::N::P::Q::a70::R::a72::S::T::a75::a76::U::W::X::l) (n+80) v:=h
theorem Te {α:Type}{a0 O a2 a3 a4 a5 Zb Ec lb a9 Zd fc a12 a pc pe b ld c Td a20 a21 a22 a23 a24 a25 a26 ie a28 d He a31 e f g i Se a37 j k a40 m o p q r a46 s t a49 u a51 w a53 x y z A B a59 C D F G H K M N P Q a70 R a72 S T a75 a76 U W X v:α}{l Y:List α}{n:Nat}(h:tc l n v Y):tc (a0::O::a2::a3::a4::a5::Zb::Ec::lb::a9::Zd::fc::a12::a::pc::pe::b::ld::c::Td::a20::a21::a22::a23::a24::a25::a26::ie::a28::d::He::a31::e::f::g::i::Se::a37::j::k::a40::m::o::p::q::r::a46::s::t::a49::u::a51::w::a53::x::y::z::A::B::a59::C::D::F::G::H::K::M::N::P::Q::a70::R::a72::S::T::a75::a76::U::W::X::l) (n+80) v (a0::O::a2::a3::a4::a5::Zb::Ec::lb::a9::Zd::fc::a12::a::pc::pe::b::ld::c::Td::a20::a21::a22::a23::a24::a25::a26::ie::a28::d::He::a31::e::f::g::i::Se::a37::j::k::a40::m::o::p::q::r::a46::s::t::a49::u::a51::w::a53::x::y::z::A::B::a59::C::D::F::G::H::K::M::N::P::Q::a70::R::a72::S::T::a75::a76::U::W::X::Y):=by unfold tc at *;subst h;rfl
theorem bd {α:Type}{a0 O a2 a3 a4 a5 Zb Ec lb a9 Zd fc a12 a pc pe b ld c Td a20 a21 a22 a23 a24 a25 a26 ie a28 d He a31 e f g i Se a37 j k a40 m o p q r a46 s t a49 u a51 w a53 x y z A B a59 C D F G H K M N P Q a70 R a72 S T a75 a76 U W X a80 Y Z gc hc a85 lc a87 rc fd v:α}{l:List α}{n:Nat}(h:zc l n v):zc (a0::O::a2::a3::a4::a5::Zb::Ec::lb::a9::Zd::fc::a12::a::pc::pe::b::ld::c::Td::a20::a21::a22::a23::a24::a25::a26::ie::a28::d::He::a31::e::f::g::i::Se::a37::j::k::a40::m::o::p::q::r::a46::s::t::a49::u::a51::w::a53::x::y::z::A::B::a59::C::D::F::G::H::K::M::N::P::Q::a70::R::a72::S::T::a75::a76::U::W::X::a80::Y::Z::gc::hc::a85::lc::a87::rc::fd::l) (n+90) v:=h
theorem Xf {α:Type}{a0 O a2 a3 a4 a5 Zb Ec lb a9 Zd fc a12 a pc pe b ld c Td a20 a21 a22 a23 a24 a25 a26 ie a28 d He a31 e f g i Se a37 j k a40 m o p q r a46 s t a49 u a51 w a53 x y z A B a59 C D F G H K M N P Q a70 R a72 S T a75 a76 U W X a80 Y Z gc hc a85 lc a87 rc fd v:α}{l id:List α}{n:Nat}(h:tc l n v id):tc (a0::O::a2::a3::a4::a5::Zb::Ec::lb::a9::Zd::fc::a12::a::pc::pe::b::ld::c::Td::a20::a21::a22::a23::a24::a25::a26::ie::a28::d::He::a31::e::f::g::i::Se::a37::j::k::a40::m::o::p::q::r::a46::s::t::a49::u::a51::w::a53::x::y::z::A::B::a59::C::D::F::G::H::K::M::N::P::Q::a70::R::a72::S::T::a75::a76::U::W::X::a80::Y::Z::gc::hc::a85::lc::a87::rc::fd::l) (n+90) v (a0::O::a2::a3::a4::a5::Zb::Ec::lb::a9::Zd::fc::a12::a::pc::pe::b::ld::c::Td::a20::a21::a22::a23::a24::a25::a26::ie::a28::d::He::a31::e::f::g::i::Se::a37::j::k::a40::m::o::p::q::r::a46::s::t::a49::u::a51::w::a53::x::y::z::A::B::a59::C::D::F::G::H::K::M::N::P::Q::a70::R::a72::S::T::a75::a76::U::W::X::a80::Y::Z::gc::hc::a85::lc::a87::rc::fd::id):=by unfold tc at *;subst h;rfl
theorem ja {α:Type}{a0 O a2 a3 a4 a5 Zb Ec lb a9 Zd fc a12 a pc pe b ld c Td a20 a21 a22 a23 a24 a25 a26 ie a28 d He a31 e f g i Se a37 j k a40 m o p q r a46 s t a49 u a51 w a53 x y z A B a59 C D F G H K M N P Q a70 R a72 S T a75 a76 U W X a80 Y Z gc hc a85 lc a87 rc fd id a91 md a93 rd wd Fd Id be ce v:α}{l:List α}{n:Nat}(h:zc l n v):zc (a0::O::a2::a3::a4::a5::Zb::Ec::lb::a9::Zd::fc::a12::a::pc::pe::b::ld::c::Td::a20::a21::a22::a23::a24::a25::a26::ie::a28::d::He::a31::e::f::g::i::Se::a37::j::k::a40::m::o::p::q::r::a46::s::t::a49::u::a51::w::a53::x::y::z::A::B::a59::C::D::F::G::H::K::M::N::P::Q::a70::R::a72::S::T::a75::a76::U::W::X::a80::Y::Z::gc::hc::a85::lc::a87::rc::fd::id::a91::md::a93::rd::wd::Fd::Id::be::ce::l) (n+100) v:=h
theorem Ga {α:Type}{a0 O a2 a3 a4 a5 Zb Ec lb a9 Zd fc a12 a pc pe b ld c Td a20 a21 a22 a23 a24 a25 a26 ie a28 d He a31 e f g i Se a37 j k a40 m o p q r a46 s t a49 u a51 w a53 x y z A B a59 C D F G H K M N P Q a70 R a72 S T a75 a76 U W X a80 Y Z gc hc a85 lc a87 rc fd id a91 md a93 rd wd Fd Id be ce v:α}{l ge:List α}{n:Nat}(h:tc l n v ge):tc (a0::O::a2::a3::a4::a5::Zb::Ec::lb::a9::Zd::fc::a12::a::pc::pe::b::ld::c::Td::a20::a21::a22::a23::a24::a25::a26::ie::a28::d::He::a31::e::f::g::i::Se::a37::j::k::a40::m::o::p::q::r::a46::s::t::a49::u::a51::w::a53::x::y::z::A::B::a59::C::D::F::G::H::K::M::N::P::Q::a70::R::a72::S::T::a75::a76::U::W::X::a80::Y::Z::gc::hc::a85::lc::a87::rc::fd::id::a91::md::a93::rd::wd::Fd::Id::be::ce::l) (n+100) v (a0::O::a2::a3::a4::a5::Zb::Ec::lb::a9::Zd::fc::a12::a::pc::pe::b::ld::c::Td::a20::a21::a22::a23::a24::a25::a26::ie::a28::d::He::a31::e::f::g::i::Se::a37::j::k::a40::m::o::p::q::r::a46::s::t::a49::u::a51::w::a53::x::y::z::A::B::a59::C::D::F::G::H::K::M::N::P::Q::a70::R::a72::S::T::a75::a76::U::W::X::a80::Y::Z::gc::hc::a85::lc::a87::rc::fd::id::a91::md::a93::rd::wd::Fd::Id::be::ce::ge):=by unfold tc at *;subst h;rfl
end Go.vc
namespace Go.vc
open Go.RowKit
section
variable {P:Program}{Q:Exit→Act→World→Prop}{K:List Value→List Deferred→World→Prop}{fr V:List Value}{ds:List Deferred}{w:World}
variable {dst:Option Tmp}{ty:TypeId}{pos:String}{after:Array Edge}{g:Option (Nat×Bool)}
variable {S Qd:Nat→Prop}{w0:World}{rs rs':List Fb}{A:World→Prop}
variable {T:TypeId}
inductive Dj:TypeDesc→Value→Prop where
 | str (l:List UInt8):Dj .string (vc.S l)
 | int (k:IntKind) (n:Int):Dj (.int k) (.int k n)
def rj:Value→Value→Bool
 | .string a,.string b=>decide (a.data.toList=b.data.toList)
 | .int _ a,.int _ b=>decide (a=b)
 | _,_=>false
def tk (es:List MapEntry) (k:Value):Option (Nat×Value):=(es.zipIdx.find? fun e=>rj k e.1.key).map fun e=>(e.2,e.1.val)
theorem AD {d:TypeDesc}{k:Value}(a:Dj d k):∀ (es:List MapEntry) (i:Nat),(∀ e ∈ es,Dj d e.key)→Instr.findNow d k es i=some (((es.zipIdx i).find? fun e=>rj k e.1.key).map fun e=>(e.2,e.1.val)):=by
 intro es
 induction es with
 | nil=>intro i _; simp [Instr.findNow]
 | cons e es b =>
  intro i h;have he:=h e (by simp);have c:=b (i+1) fun x f=>h x (by simp [f]);simp only [Instr.findNow,List.zipIdx_cons,List.find?_cons];have g:Instr.sameNow d k e.key=some (rj k e.key):=by
   generalize e.key=j at he;cases a with
   | str l =>
    cases he with
    | str m =>
     simp only [Instr.sameNow,vc.S,rj];congr 1;rw [Bool.eq_iff_iff,dx];simp
   | int kk n =>
    cases he with
    | int _ o =>
     simp only [Instr.sameNow,if_true,rj];congr 1
  rw [g];cases p:rj k e.key with
  | true=>simp
  | false=>exact c
theorem run_findKey {df:TypeId}{d:TypeDesc}{k:Value}{es:List MapEntry}(a:P.underlying df=some d) (b:Dj d k) (he:∀ e ∈ es,Dj d e.key):(Instr.findKey df k es).run P w=.ok (tk es k) w:=by
 unfold Instr.findKey tk;simp only [Sem.run_bind,run_underlying a,Result.andThen_ok,AD b es 0 he];rfl
theorem run_checkKey {df:TypeId}{d:TypeDesc}{k:Value}{b:Bool}(a:P.underlying df=some d) (c:Dj d k):(Instr.checkKey b 10000 df k).run P w=.ok () w:=by
 show (Instr.checkKey b (9999+1) df k).run P w=_;unfold Instr.checkKey;simp only [Sem.run_bind,run_underlying a,Result.andThen_ok];cases c<;>rfl
theorem yj (a:Sep S Qd w0 w rs A) (h:∀ b w',w.heap.size≤b→Sep S Qd w0 w' (.map b [] 0::rs) A→Qg fr dst (.map (some b)) fun V=>K V ds w'):Nd P (Oper.mk dst (.makeMap T none) ty pos after g) fr ds w K Q:=by
 obtain ⟨V,sb⟩:=Jh fr dst (.map (some w.heap.size));refine bh (v:=.map (some w.heap.size)) (w':=w.alloc (.map #[] 0)) ?_ sb (h _ _ (Nat.le_refl _) (a.alloc rfl (heap_alloc_new w _)) V sb);simp [execOp,Instr.makeMap]
def fk (es:List MapEntry) (k z:Value):Value:=(tk es k).elim z (·.2)
def Jo (es:List MapEntry) (k:Value):Bool:=(tk es k).isSome
def putAt (es:List MapEntry) (c:Nat) (k v:Value):List MapEntry:=match tk es k with
 | some (i,_)=>es.modify i fun e=>{ e with key:=k,val:=v }
 | none=>es++[{ key:=k,val:=v,born:=c }]
def Ul (es:List MapEntry) (c:Nat) (k:Value):Nat:=match tk es k with
 | some _=>c
 | none=>c+1
theorem BD {es:List MapEntry}{k v:Value}{i:Nat}(h:tk es k=some (i,v)):∃ e,es[i]?=some e∧rj k e.key=true∧e.val=v:=by
 unfold tk at h;cases a:es.zipIdx.find? fun e=>rj k e.1.key with
 | none=>rw [a] at h; cases h
 | some x =>
  rw [a] at h;simp only [Option.map_some,Option.some.injEq,Prod.mk.injEq] at h;obtain ⟨rfl,rfl⟩:=h;have b:=List.find?_some (p:=fun e:MapEntry×Nat=>rj k e.1.key) a;have c:=List.mem_of_find?_eq_some a;exact ⟨x.1,by have:=List.mem_zipIdx_iff_getElem?.1 c;simpa using this,b,rfl⟩
theorem lE {d:TypeDesc}{k a:Value}(c:Dj d k) (b:Dj d a) (h:rj k a=true):Instr.sameBits 10000 a k=true:=by
 cases c with
 | str l =>
  cases b with
  | str e =>
   simp [rj,vc.S] at h;subst h;simp only [Instr.sameBits,vc.S];exact (dx _ _).2 rfl
 | int kk n =>
  cases b with
  | int _ f =>
   simp [rj] at h;subst h;simp [Instr.sameBits]
theorem FB {x y z:Operand}{df aa:TypeId}{d:TypeDesc}{Ff v:Value}{b c k:Nat}{es:List MapEntry}(m:P.underlying T=some (.map df aa)) (n:P.underlying df=some d) (o:pb fr x (.map (some b))) (p:pb fr y Ff) (a:Dj d Ff) (q:pb fr z v)
  (r:Sep S Qd w0 w rs A) (s:zc rs k (.map b es c)) (he:∀ e ∈ es,Dj d e.key)
  (sb:tf fr dst undef V) (h:∀ w' rs',tc rs k (.map b (putAt es c Ff v) (Ul es c Ff)) rs'→Sep S Qd w0 w' rs' A→K V ds w'):Nd P (Oper.mk dst (.mapUpdate T x y z) ty pos after g) fr ds w K Q:=by
 have f:w.heap[b]?=some (.map ⟨es⟩ c):=r.get s;have D:b<w.heap.size:=(Array.getElem?_eq_some_iff.1 f).1
 let w':World:={ w with heap:=w.heap.setIfInBounds b (.map ⟨putAt es c Ff v⟩ (Ul es c Ff)) }
 have F:di (fun k=>k≠b) w w':=⟨rfl,rfl,rfl,by simp [w'],fun j _ G=>by simp [w',Array.getElem?_setIfInBounds,Ne.symm G]⟩;have H:=r.put (b:=b) (r':=.map b (putAt es c Ff v) (Ul es c Ff)) (w':=w') s rfl rfl rfl (by show w'.heap[b]?=_;simp [w',D]) F;have t:=run_checkKey (P:=P) (w:=w) (b:=false) n a;have B:=run_findKey (P:=P) (w:=w) n a he;refine Qy (w':=w') ?_ sb (h w' _ rfl H);cases l:tk es Ff with
 | none=>simp [execOp,o ds,p ds,q ds,Instr.mapUpdate,run_underlying m,getObj,setObj,Sem.run,f,Result.andThen,t,B,l,w',putAt,Ul]
 | some e =>
  obtain ⟨i,u⟩:=e;obtain ⟨e,C,M,-⟩:=BD l;have N:=lE a (he e (List.mem_of_getElem? C)) M;simp [execOp,o ds,p ds,q ds,Instr.mapUpdate,run_underlying m,getObj,setObj,Sem.run,f,Result.andThen,t,B,l,C,Instr.keyThatStays,N,w',putAt,Ul]
theorem OE {x:Operand}{df aa:TypeId}{m c k:Nat}{es:List MapEntry}(d:P.underlying T=some (.map df aa)) (e:pb fr x (.map (some m))) (a:Sep S Qd w0 w rs A) (f:zc rs k (.map m es c))
  (h:∀ b w',w.heap.size≤b→Sep S Qd w0 w' (.hj b m c [] c::rs) A→Qg fr dst (.pointer (some ⟨b,0,none⟩)) fun V=>K V ds w'):Nd P (Oper.mk dst (.range T x) ty pos after g) fr ds w K Q:=by
 have i:w.heap[m]?=some (.map ⟨es⟩ c):=a.get f;obtain ⟨V,sb⟩:=Jh fr dst (.pointer (some ⟨w.heap.size,0,none⟩));refine bh (v:=.pointer (some ⟨w.heap.size,0,none⟩)) (w':=w.alloc (.mapIter (some m) c #[] c)) ?_ sb (h _ _ (Nat.le_refl _) (a.alloc rfl (heap_alloc_new w _)) V sb);simp [execOp,e ds,Instr.range,run_underlying d,getObj,Sem.run,i,Result.andThen]
end
end Go.vc
namespace Go.hd
open Go.vc Go.RowKit
section
variable {P:Program}{Q:Exit→Act→World→Prop}{K:List Value→List Deferred→World→Prop}{fr V:List Value}{ds:List Deferred}{w:World}
variable {dst:Option Tmp}{ty:TypeId}{pos:String}{after:Array Edge}{g:Option (Nat×Bool)}
variable {w0:World}{rs rs':List Fb}{μ I:M}
variable {T:TypeId}{d:TypeDesc}{Ef:Bool}{Hd:List Value}{n m:Nat}
theorem eB {x y:Operand}{df aa:TypeId}{d:TypeDesc}{Ff z:Value}{b c:Nat}{es:List MapEntry}(a:P.underlying T=some (.map df aa)) (f:P.underlying df=some d) (i:pb fr x (.map (some b))) (j:pb fr y Ff) (k:Dj d Ff)
  (p:∀ w,(zeroValue aa).run P w=.ok z w) (l:w.heap[b]?=some (.map ⟨es⟩ c)) (he:∀ e ∈ es,Dj d e.key)
  (q:tf fr dst (fk es Ff z) V) (h:K V ds w):Nd P (Oper.mk dst (.lookup T x y false) ty pos after g) fr ds w K Q:=by
 refine bh (w':=w) ?_ q h;have m:=run_checkKey (w:=w) (b:=es.isEmpty) f k;have n:=run_findKey (w:=w) f k he;cases o:tk es Ff with
 | none=>simp [execOp,i ds,j ds,Instr.lookup,run_underlying a,getObj,Sem.run,l,Result.andThen,m,n,o,p w,fk]
 | some e=>simp [execOp,i ds,j ds,Instr.lookup,run_underlying a,getObj,Sem.run,l,Result.andThen,m,n,o,fk]
theorem DA {x y:Operand}{df aa:TypeId}{d:TypeDesc}{Ff z:Value}{b c:Nat}{es:List MapEntry}(a:P.underlying T=some (.map df aa)) (f:P.underlying df=some d) (i:pb fr x (.map (some b))) (j:pb fr y Ff) (k:Dj d Ff)
  (p:∀ w,(zeroValue aa).run P w=.ok z w) (l:w.heap[b]?=some (.map ⟨es⟩ c)) (he:∀ e ∈ es,Dj d e.key)
  (q:tf fr dst (.tuple #[fk es Ff z,.bool (Jo es Ff)]) V) (h:K V ds w):Nd P (Oper.mk dst (.lookup T x y true) ty pos after g) fr ds w K Q:=by
 refine bh (w':=w) ?_ q h;have m:=run_checkKey (w:=w) (b:=es.isEmpty) f k;have n:=run_findKey (w:=w) f k he;cases o:tk es Ff with
 | none=>simp [execOp,i ds,j ds,Instr.lookup,run_underlying a,getObj,Sem.run,l,Result.andThen,m,n,o,p w,fk,Jo]
 | some e=>simp [execOp,i ds,j ds,Instr.lookup,run_underlying a,getObj,Sem.run,l,Result.andThen,m,n,o,fk,Jo]
class zb (κ:Type) [DecidableEq κ] where
 key:κ→Value
 xl:TypeDesc
 df:∀ k,Dj xl (key k)
 eq:∀ a b,rj (key a) (key b)=decide (a=b)
instance:zb (List UInt8) where
 key:=S
 xl:=.string
 df:=.str
 eq a b:=by simp [rj,S]
instance:zb Int where
 key n:=.int .i64 n
 xl:=.int .i64
 df:=.int .i64
 eq a b:=by simp [rj]
class Hh (β:Type) where
 kj:M→Value→β→Prop
 up:∀ {μ I:M}{v:Value}{x:β},ga μ I→kj μ v x→kj I v x
instance:Hh Int where
 kj _ v x:=v=.int .i64 x
 up _ h:=h
def Gk {α:Type}[Ua α] (μ:M) (v:Value) (x:α):Prop:=∃ cs,v=.agg ⟨cs⟩∧Ua.cs μ cs x
theorem Gk.up {α:Type}[Ua α]{v:Value}{x:α}(l:ga μ I) (h:Gk μ v x):Gk I v x:=by
 obtain ⟨cs,a,b⟩:=h;exact ⟨cs,a,Ua.up l b⟩
def im {α:Type}[Ua α] (μ:M) (v:Value) (x:α):Prop:=∃ b o cs,v=.pointer (some ⟨b,o,none⟩)∧uc μ b o cs∧Ua.cs μ cs x
theorem im.up {α:Type}[Ua α]{v:Value}{x:α}(l:ga μ I) (h:im μ v x):im I v x:=by
 obtain ⟨b,o,cs,a,c,d⟩:=h;exact ⟨b,o,cs,a,c.up l,Ua.up l d⟩
def Ke {α:Type}[Ua α] (μ:M) (v:Value):Option α→Prop
 | none=>v=.pointer none
 | some x=>im μ v x
theorem Ke.up {α:Type}[Ua α]{v:Value}{x:Option α}(h:Ke μ v x) (l:ga μ I):Ke I v x:=by
 cases x with
 | none=>exact h
 | some x=>exact im.up l h
theorem Ke.Md {α:Type}[Ua α]{v:Value}{x:Option α}(h:Ke μ v x):Md v=true:=by
 cases x with
 | none=>rw [show v=.pointer none from h]; rfl
 | some x=>obtain ⟨b,o,cs,rfl,-⟩:=h; rfl
theorem Ke.of {α:Type}[Ua α]{b o:Nat}{cs:List Value}{x:α}(h:uc μ b o cs) (k:Ua.cs μ cs x):Ke μ (.pointer (some ⟨b,o,none⟩)) (some x):=⟨b,o,cs,rfl,h,k⟩
theorem Ke.get {α:Type}[Ua α]{v:Value}{o:Option α}{x:α}(h:Ke μ v o) (g:o=some x):∃ b o cs,v=.pointer (some ⟨b,o,none⟩)∧uc μ b o cs∧Ua.cs μ cs x:=by
 subst g;exact h
instance {α:Type}[Ua α]:Ua (Option α) where
 sz:=1
 pos:=by decide
 cs μ l x:=∃ v,l=[v]∧Ke μ v x
 qh h:=by obtain ⟨v,rfl,-⟩:=h;rfl
 up l h:=by obtain ⟨v,a,b⟩:=h;exact ⟨v,a,b.up l⟩
 Sg h:=by obtain ⟨v,rfl,h⟩:=h;simp [h.Md]
def pf {κ β:Type}[DecidableEq κ]:List (κ×β)→κ→Option β
 | [],_=>none
 | (a,b)::m,k=>if a=k then some b else pf m k
def ye {κ β:Type}[DecidableEq κ]:List (κ×β)→κ→β→List (κ×β)
 | [],k,x=>[(k,x)]
 | (a,b)::m,k,x=>if a=k then (k,x)::m else (a,b)::ye m k x
def qf {κ β:Type}[DecidableEq κ] [zb κ] [Hh β] (μ:M):List MapEntry→List (κ×β)→Prop
 | [],m=>m=[]
 | e::es,m=>∃ k x t,m=(k,x)::t∧e.key=zb.key k∧Hh.kj μ e.val x∧qf μ es t
structure Ed {κ β:Type}[DecidableEq κ] [zb κ] [Hh β] (μ:M) (es:List MapEntry) (c:Nat) (m:List (κ×β)):Prop where
 Ff:qf μ es m
 lt:∀ e ∈ es,e.born<c
 inc:es.Pairwise fun a b=>a.born<b.born
variable {κ β:Type}[DecidableEq κ] [zb κ] [Hh β]
theorem qf.up (l:ga μ I):∀ {es:List MapEntry}{m:List (κ×β)},qf μ es m→qf I es m
 | [],m,h=>by rw [qf] at h ⊢; exact h
 | e::es,m,h=>by
  rw [qf] at h ⊢;obtain ⟨k,x,t,a,b,c,d⟩:=h;exact ⟨k,x,t,a,b,Hh.up l c,qf.up l d⟩
theorem Ed.up {es:List MapEntry}{c:Nat}{m:List (κ×β)}(h:Ed μ es c m) (l:ga μ I):Ed I es c m:=⟨h.Ff.up l,h.lt,h.inc⟩
theorem qf.keys:∀ {es:List MapEntry}{m:List (κ×β)},qf μ es m→∀ e ∈ es,Dj (zb.xl (κ:=κ)) e.key
 | [],m,_,e,he=>by cases he
 | e::es,m,h,a,he=>by
  rw [qf] at h;obtain ⟨k,x,t,d,b,f,c⟩:=h;rcases List.mem_cons.1 he with rfl | he
  ·rw [b];exact zb.df k
  ·exact qf.keys c a he
theorem qf.len:∀ {es:List MapEntry}{m:List (κ×β)},qf μ es m→es.length=m.length
 | [],m,h=>by rw [qf] at h; simp [h]
 | e::es,m,h=>by
  rw [qf] at h;obtain ⟨k,x,t,rfl,b,c,a⟩:=h;simp [qf.len a]
def Tj (Ff:Value):List MapEntry→Option (Nat×Value)
 | []=>none
 | e::es=>if rj Ff e.key then some (0,e.val) else (Tj Ff es).map fun p=>(p.1+1,p.2)
theorem fB (Ff:Value):∀ (es:List MapEntry) (i:Nat),(((es.zipIdx i).find? fun e=>rj Ff e.1.key).map fun e=>(e.2,e.1.val))=(Tj Ff es).map fun p=>(p.1+i,p.2)
 | [],i=>rfl
 | e::es,i=>by
  rw [List.zipIdx_cons,List.find?_cons,Tj];cases h:rj Ff e.key with
  | true=>simp
  | false =>
   simp only [Bool.false_eq_true,if_false];rw [fB Ff es (i+1),Option.map_map];congr 1;funext p;simp;omega
theorem Nt (es:List MapEntry) (Ff:Value):tk es Ff=Tj Ff es:=by
 unfold tk;rw [fB];cases Tj Ff es<;>simp
theorem qf.look:∀ {es:List MapEntry}{m:List (κ×β)},qf μ es m→∀ k:κ,(match Tj (zb.key k) es with | none=>pf m k=none | some p=>∃ x,pf m k=some x∧Hh.kj μ p.2 x)
 | [],m,h,k=>by rw [qf] at h; subst h; rfl
 | e::es,m,h,k=>by
  rw [qf] at h;obtain ⟨d,x,t,rfl,f,g,i⟩:=h;rw [Tj,pf,f,zb.eq];have a:=qf.look i k;by_cases b:k=d
  ·subst b;simp;exact g
  ·rw [if_neg (by simpa using b),if_neg (fun e=>b e.symm)];cases c:Tj (zb.key k) es with
   | none=>rw [c] at a; exact a
   | some p=>rw [c] at a; exact a
theorem qf.get {es:List MapEntry}{m:List (κ×β)}(h:qf μ es m) (k:κ){z:Value}{zx:β}(b:Hh.kj μ z zx):Hh.kj μ (fk es (zb.key k) z) ((pf m k).getD zx):=by
 have:=h.look k;unfold fk;rw [Nt];cases a:Tj (zb.key k) es with
 | none=>rw [a] at this; simp only at this; rw [this]; exact b
 | some p=>rw [a] at this; obtain ⟨x,c,d⟩:=this; rw [c]; exact d
theorem qf.has {es:List MapEntry}{m:List (κ×β)}(h:qf μ es m) (k:κ):Jo es (zb.key k)=(pf m k).isSome:=by
 have:=h.look k;unfold Jo;rw [Nt];cases a:Tj (zb.key k) es with
 | none=>rw [a] at this; simp only at this; rw [this]; rfl
 | some p=>rw [a] at this; obtain ⟨x,b,c⟩:=this; rw [b]; rfl
theorem qf.put:∀ {es:List MapEntry}{m:List (κ×β)},qf μ es m→∀ (k:κ){v:Value}{x:β},Hh.kj μ v x→∀ c,qf μ (match Tj (zb.key k) es with | some (i,_)=>es.modify i fun e=>{ e with key:=zb.key k,val:=v } | none=>es++[{ key:=zb.key k,val:=v,born:=c }]) (ye m k x)
 | [],m,h,k,v,x,a,c=>by
  rw [qf] at h;subst h;exact ⟨k,x,[],rfl,rfl,a,rfl⟩
 | e::es,m,h,k,v,x,a,c=>by
  rw [qf] at h;obtain ⟨d,j,t,rfl,f,l,n⟩:=h;rw [Tj,ye,f,zb.eq];have b:=qf.put n k a c;by_cases g:k=d
  ·subst g;simp;exact ⟨k,x,t,rfl,rfl,a,n⟩
  ·rw [if_neg (by simpa using g),if_neg (fun e=>g e.symm)];cases o:Tj (zb.key k) es with
   | none=>rw [o] at b; exact ⟨d,j,_,rfl,f,l,b⟩
   | some p=>rw [o] at b; exact ⟨d,j,_,rfl,f,l,b⟩
theorem Ed.put {es:List MapEntry}{c:Nat}{m:List (κ×β)}(h:Ed μ es c m) (k:κ){v:Value}{x:β}(o:Hh.kj μ v x):Ed μ (putAt es c (zb.key k) v) (Ul es c (zb.key k)) (ye m k x):=by
 have d:=h.Ff.put k o c;have qa:∀ i,(es.modify i fun e=>{ e with key:=zb.key k,val:=v }).map (·.born)=es.map (·.born):=by
  intro i;refine List.ext_getElem (by simp) fun j y z=>?_;simp only [List.getElem_map,List.getElem_modify];split<;>rfl
 have q:∀ l:List MapEntry,l.map (·.born)=es.map (·.born)→∀ e ∈ l,e.born<c:=fun l g e he=>by
  have hm:e.born ∈ es.map (·.born):=g ▸ List.mem_map_of_mem he;obtain ⟨r,s,f⟩:=List.mem_map.1 hm;rw [← f];exact h.lt r s
 have t:∀ l:List MapEntry,l.map (·.born)=es.map (·.born)→l.Pairwise fun a b=>a.born<b.born:=fun l g=>by
  have:(es.map (·.born)).Pairwise (·<·):=List.pairwise_map.2 h.inc;rw [← g] at this;exact List.pairwise_map.1 this
 unfold putAt Ul;rw [Nt];cases n:Tj (zb.key k) es with
 | some p =>
  obtain ⟨i,u⟩:=p;rw [n] at d;exact ⟨d,q _ (qa i),t _ (qa i)⟩
 | none =>
  rw [n] at d;refine ⟨d,fun e he=>?_,?_⟩
  ·rcases List.mem_append.1 he with he | he
   ·exact Nat.lt_succ_of_lt (h.lt e he)
   ·simp at he;subst he;exact Nat.lt_succ_self _
  ·rw [List.pairwise_append];refine ⟨h.inc,by simp,fun a w b f=>?_⟩;simp at f;subst f;exact h.lt a w
theorem Ed.nil {c:Nat}:Ed (κ:=κ) (β:=β) μ [] c []:=⟨rfl,by simp,by simp⟩
def Tf (μ:M) (b:Nat) (m:List (κ×β)):Prop:=∃ es c,(∀ w,μ w→w.heap[b]?=some (.map ⟨es⟩ c))∧Ed μ es c m
theorem Tf.up {b:Nat}{m:List (κ×β)}(h:Tf μ b m) (l:ga μ I):Tf I b m:=by
 obtain ⟨es,c,a,d⟩:=h;exact ⟨es,c,fun w hw=>a w (l w hw),d.up l⟩
theorem _root_.Go.vc.Sep.Em {b c:Nat}{es:List MapEntry}{m:List (κ×β)}(h:la μ w0 w (.map b es c::rs)) (hm:Ed μ es c m):∃ I,ga μ I∧Tf I b m∧la I w0 w rs :=
 ⟨_,fun _ hw=>hw.1,⟨es,c,fun _ hw=>hw.2,hm.up fun _ hw=>hw.1⟩,Sep.vv (B:=fun w=>w.heap[b]?=some (.map ⟨es⟩ c)) h fun _ hw=>hw⟩
theorem Ex {x y:Operand}{df aa:TypeId}{z:Value}{b c:Nat}{es:List MapEntry}{m:List (κ×β)}{k:κ}{zx:β}(a:P.underlying T=some (.map df aa)) (d:P.underlying df=some (zb.xl (κ:=κ))) (e:pb fr x (.map (some b))) (f:pb fr y (zb.key k))
  (i:∀ w,(zeroValue aa).run P w=.ok z w) (j:Hh.kj μ z zx) (l:w.heap[b]?=some (.map ⟨es⟩ c)) (he:Ed μ es c m)
  (h:∀ v,Hh.kj μ v ((pf m k).getD zx)→Qg fr dst (.tuple #[v,.bool (pf m k).isSome]) fun V=>K V ds w):Nd P (Oper.mk dst (.lookup T x y true) ty pos after g) fr ds w K Q:=by
 obtain ⟨V,sb⟩:=Jh fr dst (.tuple #[fk es (zb.key k) z,.bool (Jo es (zb.key k))]);refine DA a d e f (zb.df k) i l he.Ff.keys sb ?_;rw [he.Ff.has k] at sb;exact h _ (he.Ff.get k j) V sb
theorem Am {x y:Operand}{df aa:TypeId}{z:Value}{b c:Nat}{es:List MapEntry}{m:List (κ×β)}{k:κ}{zx:β}(a:P.underlying T=some (.map df aa)) (d:P.underlying df=some (zb.xl (κ:=κ))) (e:pb fr x (.map (some b))) (f:pb fr y (zb.key k))
  (i:∀ w,(zeroValue aa).run P w=.ok z w) (j:Hh.kj μ z zx) (l:w.heap[b]?=some (.map ⟨es⟩ c)) (he:Ed μ es c m)
  (h:∀ v,Hh.kj μ v ((pf m k).getD zx)→Qg fr dst v fun V=>K V ds w):Nd P (Oper.mk dst (.lookup T x y false) ty pos after g) fr ds w K Q:=by
 obtain ⟨V,sb⟩:=Jh fr dst (fk es (zb.key k) z);refine eB a d e f (zb.df k) i l he.Ff.keys sb ?_;exact h _ (he.Ff.get k j) V sb
theorem qf.lC {α:Type}[Ua α] [Hh α] (hrv:∀ (v:Value) (x:α),Hh.kj μ v x→im μ v x){es:List MapEntry}{m:List (κ×α)}(h:qf μ es m) (k:κ):Ke μ (fk es (zb.key k) (.pointer none)) (pf m k):=by
 have:=h.look k;unfold fk;rw [Nt];cases a:Tj (zb.key k) es with
 | none=>rw [a] at this; simp only at this; rw [this]; rfl
 | some p=>rw [a] at this; obtain ⟨x,b,c⟩:=this; rw [b]; exact hrv _ _ c
theorem EA {α:Type}[Ua α] [Hh α] (hrv:∀ (v:Value) (x:α),Hh.kj μ v x→im μ v x){x y:Operand}{df aa:TypeId}{b c:Nat}{es:List MapEntry}{m:List (κ×α)}{k:κ}(a:P.underlying T=some (.map df aa)) (d:P.underlying df=some (zb.xl (κ:=κ))) (e:pb fr x (.map (some b))) (f:pb fr y (zb.key k))
  (i:∀ w,(zeroValue aa).run P w=.ok (.pointer none) w) (j:w.heap[b]?=some (.map ⟨es⟩ c)) (he:Ed μ es c m)
  (h:∀ v,Ke μ v (pf m k)→Qg fr dst (.tuple #[v,.bool (pf m k).isSome]) fun V=>K V ds w):Nd P (Oper.mk dst (.lookup T x y true) ty pos after g) fr ds w K Q:=by
 obtain ⟨V,sb⟩:=Jh fr dst (.tuple #[fk es (zb.key k) (.pointer none),.bool (Jo es (zb.key k))]);refine DA a d e f (zb.df k) i j he.Ff.keys sb ?_;rw [he.Ff.has k] at sb;exact h _ (he.Ff.lC hrv k) V sb
theorem Hp {α:Type}[Ua α] [Hh α] (hrv:∀ (v:Value) (x:α),Hh.kj μ v x→im μ v x){x y:Operand}{df aa:TypeId}{b c:Nat}{es:List MapEntry}{m:List (κ×α)}{k:κ}(a:P.underlying T=some (.map df aa)) (d:P.underlying df=some (zb.xl (κ:=κ))) (e:pb fr x (.map (some b))) (f:pb fr y (zb.key k))
  (i:∀ w,(zeroValue aa).run P w=.ok (.pointer none) w) (j:w.heap[b]?=some (.map ⟨es⟩ c)) (he:Ed μ es c m)
  (h:∀ v,Ke μ v (pf m k)→Qg fr dst v fun V=>K V ds w):Nd P (Oper.mk dst (.lookup T x y false) ty pos after g) fr ds w K Q:=by
 obtain ⟨V,sb⟩:=Jh fr dst (fk es (zb.key k) (.pointer none));refine eB a d e f (zb.df k) i j he.Ff.keys sb ?_;exact h _ (he.Ff.lC hrv k) V sb
theorem zr {aa:TypeId}{z:Value}(h:(P.info? aa).map (fun i=>i.zero)=some (some z)):∀ w,(zeroValue aa).run P w=.ok z w:=fun w=>by
 cases fb:P.info? aa with
 | none=>rw [fb] at h; cases h
 | some i =>
  rw [fb] at h;simp only [Option.map_some,Option.some.injEq] at h;simp [zeroValue,typeInfo,fb,h]
theorem nn {x y z:Operand}{df aa:TypeId}{v:Value}{b c k:Nat}{es:List MapEntry}{kk:κ}{m:List (κ×β)}{xx:β}(d:P.underlying T=some (.map df aa)) (e:P.underlying df=some (zb.xl (κ:=κ))) (f:pb fr x (.map (some b))) (i:pb fr y (zb.key kk)) (j:pb fr z v) (l:Hh.kj μ v xx)
  (n:la μ w0 w rs) (o:zc rs k (.map b es c)) (he:Ed μ es c m)
  (sb:tf fr dst undef V) (h:∀ a c' w' rs',Ed μ a c' (ye m kk xx)→tc rs k (.map b a c') rs'→la μ w0 w' rs'→K V ds w'):Nd P (Oper.mk dst (.mapUpdate T x y z) ty pos after g) fr ds w K Q :=
 FB d e f i (zb.df kk) j n o he.Ff.keys sb fun w' rs'=>h _ _ w' rs' (he.put kk l)
theorem Pj {x y z:Operand}{df aa:TypeId}{v:Value}{b c k:Nat}{es:List MapEntry}{kk:κ}{m:List (κ×β)}{xx:β}(d:P.underlying T=some (.map df aa)) (e:P.underlying df=some (zb.xl (κ:=κ))) (f:pb fr x (.map (some b))) (i:pb fr y (zb.key kk)) (j:pb fr z v) (l:Hh.kj μ v xx)
  (n:la μ w0 w rs) (o:zc rs k (.map b es c)) (he:Ed μ es c m)
  (sb:tf fr dst undef V) (h:∀ a c' w' rs',Ed μ a c' (ye m kk xx)→tc rs k (.map b a c') rs'→la μ w0 w' rs'→K V ds w'):Nd P (Oper.mk dst (.insert T x y z) ty pos after g) fr ds w K Q :=
 ⟨fun p q=>(nn (dst:=dst) (ty:=ty) (pos:=pos) (after:=after) (g:=g) d e f i j l n o he sb h).out p q⟩
theorem GB {x:Operand}{df aa:TypeId}{b c:Nat}{es:List MapEntry}{m:List (κ×β)}(a:P.underlying T=some (.map df aa)) (d:pb fr x (.map (some b))) (e:w.heap[b]?=some (.map ⟨es⟩ c)) (he:Ed μ es c m)
  (f:tf fr dst (.int .i64 m.length) V) (h:K V ds w):Nd P (Oper.mk dst (.call { callee:=.builtin .len,args:=#[x],argTypes:=#[T] }) ty pos after g) fr ds w K Q:=by
 refine bh (w':=w) ?_ f h;have:=he.Ff.len;simp [execOp,resolve,invoke,builtin,Builtin.len_,goInt,d ds,run_underlying a,getObj,Sem.run,e,Result.andThen,this]
end
end Go.hd
namespace Go.vc
abbrev nh (m:List zb):List zb:=.k::m
abbrev Cd (s:Nat) (m:List zb):List zb:=.o s::m
theorem We {m:List zb}{a0:Value}{l a:List Value}(h:Ie m l a):Ie (nh m) (a0::l) (a0::a):=(.k h)
theorem db {m:List zb}{s:Nat}{a0 b:Value}{l a:List Value}(h:Ie m l a):Ie (Cd s m) (a0::l) (b::a):=(.o h)
theorem Ch {t:Nat→Value}{m:List zb}{a0:Value}{l a:List Value}(h:Xe t m l a):Xe t (nh m) (a0::l) (a0::a):=(mk h)
theorem Kd {t:Nat→Value}{m:List zb}{s:Nat}{a0:Value}{l a:List Value}(h:Xe t m l a):Xe t (Cd s m) (a0::l) (t s::a):=(Kc h)
abbrev fg (m:List zb):List zb:=.k::.k::m
abbrev Pf (s:Nat) (m:List zb):List zb:=.o s::.o (s+1)::m
theorem cd {m:List zb}{a0 O:Value}{l a:List Value}(h:Ie m l a):Ie (fg m) (a0::O::l) (a0::O::a):=(.k (.k h))
theorem Cc {m:List zb}{s:Nat}{a0 O b L:Value}{l a:List Value}(h:Ie m l a):Ie (Pf s m) (a0::O::l) (b::L::a):=(.o (.o h))
theorem lg {t:Nat→Value}{m:List zb}{a0 O:Value}{l a:List Value}(h:Xe t m l a):Xe t (fg m) (a0::O::l) (a0::O::a):=(mk (mk h))
theorem Yf {t:Nat→Value}{m:List zb}{s:Nat}{a0 O:Value}{l a:List Value}(h:Xe t m l a):Xe t (Pf s m) (a0::O::l) (t s::t (s+1)::a):=(Kc (Kc h))
abbrev wg (m:List zb):List zb:=.k::.k::.k::m
abbrev si (s:Nat) (m:List zb):List zb:=.o s::.o (s+1)::.o (s+2)::m
theorem dd {m:List zb}{a0 O a2:Value}{l a:List Value}(h:Ie m l a):Ie (wg m) (a0::O::a2::l) (a0::O::a2::a):=(.k (.k (.k h)))
theorem Zf {m:List zb}{s:Nat}{a0 O a2 b L c:Value}{l a:List Value}(h:Ie m l a):Ie (si s m) (a0::O::a2::l) (b::L::c::a):=(.o (.o (.o h)))
theorem Dg {t:Nat→Value}{m:List zb}{a0 O a2:Value}{l a:List Value}(h:Xe t m l a):Xe t (wg m) (a0::O::a2::l) (a0::O::a2::a):=(mk (mk (mk h)))
theorem Ni {t:Nat→Value}{m:List zb}{s:Nat}{a0 O a2:Value}{l a:List Value}(h:Xe t m l a):Xe t (si s m) (a0::O::a2::l) (t s::t (s+1)::t (s+2)::a):=(Kc (Kc (Kc h)))
abbrev Ag (m:List zb):List zb:=.k::.k::.k::.k::m
abbrev Wh (s:Nat) (m:List zb):List zb:=.o s::.o (s+1)::.o (s+2)::.o (s+3)::m
theorem Gd {m:List zb}{a0 O a2 a3:Value}{l a:List Value}(h:Ie m l a):Ie (Ag m) (a0::O::a2::a3::l) (a0::O::a2::a3::a):=(.k (.k (.k (.k h))))
theorem xe {m:List zb}{s:Nat}{a0 O a2 a3 b L c Pa:Value}{l a:List Value}(h:Ie m l a):Ie (Wh s m) (a0::O::a2::a3::l) (b::L::c::Pa::a):=(.o (.o (.o (.o h))))
theorem Eg {t:Nat→Value}{m:List zb}{a0 O a2 a3:Value}{l a:List Value}(h:Xe t m l a):Xe t (Ag m) (a0::O::a2::a3::l) (a0::O::a2::a3::a):=(mk (mk (mk (mk h))))
theorem ti {t:Nat→Value}{m:List zb}{s:Nat}{a0 O a2 a3:Value}{l a:List Value}(h:Xe t m l a):Xe t (Wh s m) (a0::O::a2::a3::l) (t s::t (s+1)::t (s+2)::t (s+3)::a):=(Kc (Kc (Kc (Kc h))))
abbrev hg (m:List zb):List zb:=.k::.k::.k::.k::.k::m
abbrev Qk (s:Nat) (m:List zb):List zb:=.o s::.o (s+1)::.o (s+2)::.o (s+3)::.o (s+4)::m
theorem bc {m:List zb}{a0 O a2 a3 a4:Value}{l a:List Value}(h:Ie m l a):Ie (hg m) (a0::O::a2::a3::a4::l) (a0::O::a2::a3::a4::a):=(.k (.k (.k (.k (.k h)))))
theorem ij {m:List zb}{s:Nat}{a0 O a2 a3 a4 b L c Pa ef:Value}{l a:List Value}(h:Ie m l a):Ie (Qk s m) (a0::O::a2::a3::a4::l) (b::L::c::Pa::ef::a):=(.o (.o (.o (.o (.o h)))))
theorem pg {t:Nat→Value}{m:List zb}{a0 O a2 a3 a4:Value}{l a:List Value}(h:Xe t m l a):Xe t (hg m) (a0::O::a2::a3::a4::l) (a0::O::a2::a3::a4::a):=(mk (mk (mk (mk (mk h)))))
theorem dm {t:Nat→Value}{m:List zb}{s:Nat}{a0 O a2 a3 a4:Value}{l a:List Value}(h:Xe t m l a):Xe t (Qk s m) (a0::O::a2::a3::a4::l) (t s::t (s+1)::t (s+2)::t (s+3)::t (s+4)::a):=(Kc (Kc (Kc (Kc (Kc h)))))
abbrev oh (m:List zb):List zb:=.k::.k::.k::.k::.k::.k::m
abbrev Uj (s:Nat) (m:List zb):List zb:=.o s::.o (s+1)::.o (s+2)::.o (s+3)::.o (s+4)::.o (s+5)::m
theorem je {m:List zb}{a0 O a2 a3 a4 a5:Value}{l a:List Value}(h:Ie m l a):Ie (oh m) (a0::O::a2::a3::a4::a5::l) (a0::O::a2::a3::a4::a5::a):=(.k (.k (.k (.k (.k (.k h))))))
theorem qg {m:List zb}{s:Nat}{a0 O a2 a3 a4 a5 b L c Pa ef gg:Value}{l a:List Value}(h:Ie m l a):Ie (Uj s m) (a0::O::a2::a3::a4::a5::l) (b::L::c::Pa::ef::gg::a):=(.o (.o (.o (.o (.o (.o h))))))
theorem Dh {t:Nat→Value}{m:List zb}{a0 O a2 a3 a4 a5:Value}{l a:List Value}(h:Xe t m l a):Xe t (oh m) (a0::O::a2::a3::a4::a5::l) (a0::O::a2::a3::a4::a5::a):=(mk (mk (mk (mk (mk (mk h))))))
theorem Bk {t:Nat→Value}{m:List zb}{s:Nat}{a0 O a2 a3 a4 a5:Value}{l a:List Value}(h:Xe t m l a):Xe t (Uj s m) (a0::O::a2::a3::a4::a5::l) (t s::t (s+1)::t (s+2)::t (s+3)::t (s+4)::t (s+5)::a):=(Kc (Kc (Kc (Kc (Kc (Kc h))))))
abbrev Ei (m:List zb):List zb:=.k::.k::.k::.k::.k::.k::.k::m
abbrev sj (s:Nat) (m:List zb):List zb:=.o s::.o (s+1)::.o (s+2)::.o (s+3)::.o (s+4)::.o (s+5)::.o (s+6)::m
theorem Sf {m:List zb}{a0 O a2 a3 a4 a5 Zb:Value}{l a:List Value}(h:Ie m l a):Ie (Ei m) (a0::O::a2::a3::a4::a5::Zb::l) (a0::O::a2::a3::a4::a5::Zb::a):=(.k (.k (.k (.k (.k (.k (.k h)))))))
theorem Yg {m:List zb}{s:Nat}{a0 O a2 a3 a4 a5 Zb b L c Pa ef gg Uf:Value}{l a:List Value}(h:Ie m l a):Ie (sj s m) (a0::O::a2::a3::a4::a5::Zb::l) (b::L::c::Pa::ef::gg::Uf::a):=(.o (.o (.o (.o (.o (.o (.o h)))))))
theorem Si {t:Nat→Value}{m:List zb}{a0 O a2 a3 a4 a5 Zb:Value}{l a:List Value}(h:Xe t m l a):Xe t (Ei m) (a0::O::a2::a3::a4::a5::Zb::l) (a0::O::a2::a3::a4::a5::Zb::a):=(mk (mk (mk (mk (mk (mk (mk h)))))))
theorem Mj {t:Nat→Value}{m:List zb}{s:Nat}{a0 O a2 a3 a4 a5 Zb:Value}{l a:List Value}(h:Xe t m l a):Xe t (sj s m) (a0::O::a2::a3::a4::a5::Zb::l) (t s::t (s+1)::t (s+2)::t (s+3)::t (s+4)::t (s+5)::t (s+6)::a):=(Kc (Kc (Kc (Kc (Kc (Kc (Kc h)))))))
abbrev Fi (m:List zb):List zb:=.k::.k::.k::.k::.k::.k::.k::.k::m
abbrev jj (s:Nat) (m:List zb):List zb:=.o s::.o (s+1)::.o (s+2)::.o (s+3)::.o (s+4)::.o (s+5)::.o (s+6)::.o (s+7)::m
theorem sg {m:List zb}{a0 O a2 a3 a4 a5 Zb Ec:Value}{l a:List Value}(h:Ie m l a):Ie (Fi m) (a0::O::a2::a3::a4::a5::Zb::Ec::l) (a0::O::a2::a3::a4::a5::Zb::Ec::a):=(.k (.k (.k (.k (.k (.k (.k (.k h))))))))
theorem dh {m:List zb}{s:Nat}{a0 O a2 a3 a4 a5 Zb Ec b L c Pa ef gg Uf Gf:Value}{l a:List Value}(h:Ie m l a):Ie (jj s m) (a0::O::a2::a3::a4::a5::Zb::Ec::l) (b::L::c::Pa::ef::gg::Uf::Gf::a):=(.o (.o (.o (.o (.o (.o (.o (.o h))))))))
theorem Ti {t:Nat→Value}{m:List zb}{a0 O a2 a3 a4 a5 Zb Ec:Value}{l a:List Value}(h:Xe t m l a):Xe t (Fi m) (a0::O::a2::a3::a4::a5::Zb::Ec::l) (a0::O::a2::a3::a4::a5::Zb::Ec::a):=(mk (mk (mk (mk (mk (mk (mk (mk h))))))))
theorem Gj {t:Nat→Value}{m:List zb}{s:Nat}{a0 O a2 a3 a4 a5 Zb Ec:Value}{l a:List Value}(h:Xe t m l a):Xe t (jj s m) (a0::O::a2::a3::a4::a5::Zb::Ec::l) (t s::t (s+1)::t (s+2)::t (s+3)::t (s+4)::t (s+5)::t (s+6)::t (s+7)::a):=(Kc (Kc (Kc (Kc (Kc (Kc (Kc (Kc h))))))))
abbrev Gi (m:List zb):List zb:=.k::.k::.k::.k::.k::.k::.k::.k::.k::m
abbrev Ck (s:Nat) (m:List zb):List zb:=.o s::.o (s+1)::.o (s+2)::.o (s+3)::.o (s+4)::.o (s+5)::.o (s+6)::.o (s+7)::.o (s+8)::m
theorem ag {m:List zb}{a0 O a2 a3 a4 a5 Zb Ec lb:Value}{l a:List Value}(h:Ie m l a):Ie (Gi m) (a0::O::a2::a3::a4::a5::Zb::Ec::lb::l) (a0::O::a2::a3::a4::a5::Zb::Ec::lb::a):=(.k (.k (.k (.k (.k (.k (.k (.k (.k h)))))))))
theorem Ui {m:List zb}{s:Nat}{a0 O a2 a3 a4 a5 Zb Ec lb b L c Pa ef gg Uf Gf xf:Value}{l a:List Value}(h:Ie m l a):Ie (Ck s m) (a0::O::a2::a3::a4::a5::Zb::Ec::lb::l) (b::L::c::Pa::ef::gg::Uf::Gf::xf::a):=(.o (.o (.o (.o (.o (.o (.o (.o (.o h)))))))))
theorem Vi {t:Nat→Value}{m:List zb}{a0 O a2 a3 a4 a5 Zb Ec lb:Value}{l a:List Value}(h:Xe t m l a):Xe t (Gi m) (a0::O::a2::a3::a4::a5::Zb::Ec::lb::l) (a0::O::a2::a3::a4::a5::Zb::Ec::lb::a):=(mk (mk (mk (mk (mk (mk (mk (mk (mk h)))))))))
theorem vl {t:Nat→Value}{m:List zb}{s:Nat}{a0 O a2 a3 a4 a5 Zb Ec lb:Value}{l a:List Value}(h:Xe t m l a):Xe t (Ck s m) (a0::O::a2::a3::a4::a5::Zb::Ec::lb::l) (t s::t (s+1)::t (s+2)::t (s+3)::t (s+4)::t (s+5)::t (s+6)::t (s+7)::t (s+8)::a):=(Kc (Kc (Kc (Kc (Kc (Kc (Kc (Kc (Kc h)))))))))
abbrev we (m:List zb):List zb:=.k::.k::.k::.k::.k::.k::.k::.k::.k::.k::m
abbrev yd (s:Nat) (m:List zb):List zb:=.o s::.o (s+1)::.o (s+2)::.o (s+3)::.o (s+4)::.o (s+5)::.o (s+6)::.o (s+7)::.o (s+8)::.o (s+9)::m
theorem mc {m:List zb}{a0 O a2 a3 a4 a5 Zb Ec lb a9:Value}{l a:List Value}(h:Ie m l a):Ie (we m) (a0::O::a2::a3::a4::a5::Zb::Ec::lb::a9::l) (a0::O::a2::a3::a4::a5::Zb::Ec::lb::a9::a):=(.k (.k (.k (.k (.k (.k (.k (.k (.k (.k h))))))))))
theorem mb {m:List zb}{s:Nat}{a0 O a2 a3 a4 a5 Zb Ec lb a9 b L c Pa ef gg Uf Gf xf Pc:Value}{l a:List Value}(h:Ie m l a):Ie (yd s m) (a0::O::a2::a3::a4::a5::Zb::Ec::lb::a9::l) (b::L::c::Pa::ef::gg::Uf::Gf::xf::Pc::a):=(.o (.o (.o (.o (.o (.o (.o (.o (.o (.o h))))))))))
theorem De {t:Nat→Value}{m:List zb}{a0 O a2 a3 a4 a5 Zb Ec lb a9:Value}{l a:List Value}(h:Xe t m l a):Xe t (we m) (a0::O::a2::a3::a4::a5::Zb::Ec::lb::a9::l) (a0::O::a2::a3::a4::a5::Zb::Ec::lb::a9::a):=(mk (mk (mk (mk (mk (mk (mk (mk (mk (mk h))))))))))
theorem Bd {t:Nat→Value}{m:List zb}{s:Nat}{a0 O a2 a3 a4 a5 Zb Ec lb a9:Value}{l a:List Value}(h:Xe t m l a):Xe t (yd s m) (a0::O::a2::a3::a4::a5::Zb::Ec::lb::a9::l) (t s::t (s+1)::t (s+2)::t (s+3)::t (s+4)::t (s+5)::t (s+6)::t (s+7)::t (s+8)::t (s+9)::a):=(Kc (Kc (Kc (Kc (Kc (Kc (Kc (Kc (Kc (Kc h))))))))))
abbrev vd (m:List zb):List zb:=.k::.k::.k::.k::.k::.k::.k::.k::.k::.k::.k::.k::.k::.k::.k::.k::.k::.k::.k::.k::m
abbrev nf (s:Nat) (m:List zb):List zb:=.o s::.o (s+1)::.o (s+2)::.o (s+3)::.o (s+4)::.o (s+5)::.o (s+6)::.o (s+7)::.o (s+8)::.o (s+9)::.o (s+10)::.o (s+11)::.o (s+12)::.o (s+13)::.o (s+14)::.o (s+15)::.o (s+16)::.o (s+17)::.o (s+18)::.o (s+19)::m
theorem Za {m:List zb}{a0 O a2 a3 a4 a5 Zb Ec lb a9 Zd fc a12 a pc pe b ld c Td:Value}{l d:List Value}(h:Ie m l d):Ie (vd m) (a0::O::a2::a3::a4::a5::Zb::Ec::lb::a9::Zd::fc::a12::a::pc::pe::b::ld::c::Td::l) (a0::O::a2::a3::a4::a5::Zb::Ec::lb::a9::Zd::fc::a12::a::pc::pe::b::ld::c::Td::d):=(.k (.k (.k (.k (.k (.k (.k (.k (.k (.k (.k (.k (.k (.k (.k (.k (.k (.k (.k (.k h))))))))))))))))))))
theorem qb {m:List zb}{s:Nat}{a0 O a2 a3 a4 a5 Zb Ec lb a9 Zd fc a12 b pc pe c ld d Td e L f Pa ef gg Uf Gf xf Pc mi g ze Zg i j k Eh ph Le:Value}{l a:List Value}(h:Ie m l a):Ie (nf s m) (a0::O::a2::a3::a4::a5::Zb::Ec::lb::a9::Zd::fc::a12::b::pc::pe::c::ld::d::Td::l) (e::L::f::Pa::ef::gg::Uf::Gf::xf::Pc::mi::g::ze::Zg::i::j::k::Eh::ph::Le::a):=(.o (.o (.o (.o (.o (.o (.o (.o (.o (.o (.o (.o (.o (.o (.o (.o (.o (.o (.o (.o h))))))))))))))))))))
theorem xd {t:Nat→Value}{m:List zb}{a0 O a2 a3 a4 a5 Zb Ec lb a9 Zd fc a12 a pc pe b ld c Td:Value}{l d:List Value}(h:Xe t m l d):Xe t (vd m) (a0::O::a2::a3::a4::a5::Zb::Ec::lb::a9::Zd::fc::a12::a::pc::pe::b::ld::c::Td::l) (a0::O::a2::a3::a4::a5::Zb::Ec::lb::a9::Zd::fc::a12::a::pc::pe::b::ld::c::Td::d):=(mk (mk (mk (mk (mk (mk (mk (mk (mk (mk (mk (mk (mk (mk (mk (mk (mk (mk (mk (mk h))))))))))))))))))))
theorem sf {t:Nat→Value}{m:List zb}{s:Nat}{a0 O a2 a3 a4 a5 Zb Ec lb a9 Zd fc a12 b pc pe c ld d Td:Value}{l a:List Value}(h:Xe t m l a):Xe t (nf s m) (a0::O::a2::a3::a4::a5::Zb::Ec::lb::a9::Zd::fc::a12::b::pc::pe::c::ld::d::Td::l) (t s::t (s+1)::t (s+2)::t (s+3)::t (s+4)::t (s+5)::t (s+6)::t (s+7)::t (s+8)::t (s+9)::t (s+10)::t (s+11)::t (s+12)::t (s+13)::t (s+14)::t (s+15)::t (s+16)::t (s+17)::t (s+18)::t (s+19)::a):=(Kc (Kc (Kc (Kc (Kc (Kc (Kc (Kc (Kc (Kc (Kc (Kc (Kc (Kc (Kc (Kc (Kc (Kc (Kc (Kc h))))))))))))))))))))
abbrev Ge (m:List zb):List zb:=.k::.k::.k::.k::.k::.k::.k::.k::.k::.k::.k::.k::.k::.k::.k::.k::.k::.k::.k::.k::.k::.k::.k::.k::.k::.k::.k::.k::.k::.k::.k::.k::.k::.k::.k::.k::.k::.k::.k::.k::.k::.k::.k::.k::.k::.k::.k::.k::.k::.k::m
abbrev gj (s:Nat) (m:List zb):List zb:=.o s::.o (s+1)::.o (s+2)::.o (s+3)::.o (s+4)::.o (s+5)::.o (s+6)::.o (s+7)::.o (s+8)::.o (s+9)::.o (s+10)::.o (s+11)::.o (s+12)::.o (s+13)::.o (s+14)::.o (s+15)::.o (s+16)::.o (s+17)::.o (s+18)::.o (s+19)::.o (s+20)::.o (s+21)::.o (s+22)::.o (s+23)::.o (s+24)::.o (s+25)::.o (s+26)::.o (s+27)::.o (s+28)::.o (s+29)::.o (s+30)::.o (s+31)::.o (s+32)::.o (s+33)::.o (s+34)::.o (s+35)::.o (s+36)::.o (s+37)::.o (s+38)::.o (s+39)::.o (s+40)::.o (s+41)::.o (s+42)::.o (s+43)::.o (s+44)::.o (s+45)::.o (s+46)::.o (s+47)::.o (s+48)::.o (s+49)::m
theorem hb {m:List zb}{a0 O a2 a3 a4 a5 Zb Ec lb a9 Zd fc a12 a pc pe b ld c Td a20 a21 a22 a23 a24 a25 a26 ie a28 d He a31 e f g i Se a37 j n a40 o p q r s a46 t u a49:Value}{l v:List Value}(h:Ie m l v):Ie (Ge m) (a0::O::a2::a3::a4::a5::Zb::Ec::lb::a9::Zd::fc::a12::a::pc::pe::b::ld::c::Td::a20::a21::a22::a23::a24::a25::a26::ie::a28::d::He::a31::e::f::g::i::Se::a37::j::n::a40::o::p::q::r::s::a46::t::u::a49::l) (a0::O::a2::a3::a4::a5::Zb::Ec::lb::a9::Zd::fc::a12::a::pc::pe::b::ld::c::Td::a20::a21::a22::a23::a24::a25::a26::ie::a28::d::He::a31::e::f::g::i::Se::a37::j::n::a40::o::p::q::r::s::a46::t::u::a49::v):=(.k (.k (.k (.k (.k (.k (.k (.k (.k (.k (.k (.k (.k (.k (.k (.k (.k (.k (.k (.k (.k (.k (.k (.k (.k (.k (.k (.k (.k (.k (.k (.k (.k (.k (.k (.k (.k (.k (.k (.k (.k (.k (.k (.k (.k (.k (.k (.k (.k (.k h))))))))))))))))))))))))))))))))))))))))))))))))))
theorem Yc {m:List zb}{s:Nat}{a0 O a2 a3 a4 a5 Zb Ec lb a9 Zd fc a12 b pc pe c ld d Td a20 a21 a22 a23 a24 a25 a26 ie a28 e He a31 f g i j Se a37 k n a40 p q r t u a46 v w a49 x L y Pa ef gg Uf Gf xf Pc mi z ze Zg A B C Eh ph Le Af D F G H af K M N P Nj Q R Xh S T U W X Y Rg Z gc hc lc rc fd id md rd:Value}{l a:List Value}(h:Ie m l a):Ie (gj s m) (a0::O::a2::a3::a4::a5::Zb::Ec::lb::a9::Zd::fc::a12::b::pc::pe::c::ld::d::Td::a20::a21::a22::a23::a24::a25::a26::ie::a28::e::He::a31::f::g::i::j::Se::a37::k::n::a40::p::q::r::t::u::a46::v::w::a49::l) (x::L::y::Pa::ef::gg::Uf::Gf::xf::Pc::mi::z::ze::Zg::A::B::C::Eh::ph::Le::Af::D::F::G::H::af::K::M::N::P::Nj::Q::R::Xh::S::T::U::W::X::Y::Rg::Z::gc::hc::lc::rc::fd::id::md::rd::a):=(.o (.o (.o (.o (.o (.o (.o (.o (.o (.o (.o (.o (.o (.o (.o (.o (.o (.o (.o (.o (.o (.o (.o (.o (.o (.o (.o (.o (.o (.o (.o (.o (.o (.o (.o (.o (.o (.o (.o (.o (.o (.o (.o (.o (.o (.o (.o (.o (.o (.o h))))))))))))))))))))))))))))))))))))))))))))))))))
theorem Re {t:Nat→Value}{m:List zb}{a0 O a2 a3 a4 a5 Zb Ec lb a9 Zd fc a12 a pc pe b ld c Td a20 a21 a22 a23 a24 a25 a26 ie a28 d He a31 e f g i Se a37 j k a40 n o p q r a46 s u a49:Value}{l v:List Value}(h:Xe t m l v):Xe t (Ge m) (a0::O::a2::a3::a4::a5::Zb::Ec::lb::a9::Zd::fc::a12::a::pc::pe::b::ld::c::Td::a20::a21::a22::a23::a24::a25::a26::ie::a28::d::He::a31::e::f::g::i::Se::a37::j::k::a40::n::o::p::q::r::a46::s::u::a49::l) (a0::O::a2::a3::a4::a5::Zb::Ec::lb::a9::Zd::fc::a12::a::pc::pe::b::ld::c::Td::a20::a21::a22::a23::a24::a25::a26::ie::a28::d::He::a31::e::f::g::i::Se::a37::j::k::a40::n::o::p::q::r::a46::s::u::a49::v):=(mk (mk (mk (mk (mk (mk (mk (mk (mk (mk (mk (mk (mk (mk (mk (mk (mk (mk (mk (mk (mk (mk (mk (mk (mk (mk (mk (mk (mk (mk (mk (mk (mk (mk (mk (mk (mk (mk (mk (mk (mk (mk (mk (mk (mk (mk (mk (mk (mk (mk h))))))))))))))))))))))))))))))))))))))))))))))))))
theorem Ej {t:Nat→Value}{m:List zb}{s:Nat}{a0 O a2 a3 a4 a5 Zb Ec lb a9 Zd fc a12 b pc pe c ld d Td a20 a21 a22 a23 a24 a25 a26 ie a28 e He a31 f g i j Se a37 k n a40 o p q r u a46 v w a49:Value}{l a:List Value}(h:Xe t m l a):Xe t (gj s m) (a0::O::a2::a3::a4::a5::Zb::Ec::lb::a9::Zd::fc::a12::b::pc::pe::c::ld::d::Td::a20::a21::a22::a23::a24::a25::a26::ie::a28::e::He::a31::f::g::i::j::Se::a37::k::n::a40::o::p::q::r::u::a46::v::w::a49::l) (t s::t (s+1)::t (s+2)::t (s+3)::t (s+4)::t (s+5)::t (s+6)::t (s+7)::t (s+8)::t (s+9)::t (s+10)::t (s+11)::t (s+12)::t (s+13)::t (s+14)::t (s+15)::t (s+16)::t (s+17)::t (s+18)::t (s+19)::t (s+20)::t (s+21)::t (s+22)::t (s+23)::t (s+24)::t (s+25)::t (s+26)::t (s+27)::t (s+28)::t (s+29)::t (s+30)::t (s+31)::t (s+32)::t (s+33)::t (s+34)::t (s+35)::t (s+36)::t (s+37)::t (s+38)::t (s+39)::t (s+40)::t (s+41)::t (s+42)::t (s+43)::t (s+44)::t (s+45)::t (s+46)::t (s+47)::t (s+48)::t (s+49)::a):=(Kc (Kc (Kc (Kc (Kc (Kc (Kc (Kc (Kc (Kc (Kc (Kc (Kc (Kc (Kc (Kc (Kc (Kc (Kc (Kc (Kc (Kc (Kc (Kc (Kc (Kc (Kc (Kc (Kc (Kc (Kc (Kc (Kc (Kc (Kc (Kc (Kc (Kc (Kc (Kc (Kc (Kc (Kc (Kc (Kc (Kc (Kc (Kc (Kc (Kc h))))))))))))))))))))))))))))))))))))))))))))))))))
theorem Ea {m:List zb}{v a:Value}{l b:List Value}(h:Ie m l b):Ie (.i v::m) (a::l) (v::b):=.i h
theorem ua {l:List Value}:Ie [] l l:=.z
end Go.vc
namespace Go.vc
open Go.RowKit
section
variable {P:Program}{Q:Exit→Act→World→Prop}{ops:Array Oper}{fr V:List Value}{ds:List Deferred}{w:World}
theorem Pv (ops:Array Oper) (fr:List Value) (ds:List Deferred) (j:Nat):yielded ops (F fr ds).tmps j=match (ops[j]?).bind (·.dst) with | some s=>(match (F fr ds).eval (.tmp s) with | .bool b=>some b | _=>none) | none=>none:=by
 unfold yielded;cases h:(ops[j]?).bind (·.dst) with
 | none=>simp
 | some s =>
  simp only [Option.bind_some,F,Act.eval];cases a:(⟨fr⟩:Array Value)[s]? with
  | none =>
   have:(⟨fr⟩:Array Value).getD s undef=undef:=by simp [Array.getD_eq_getD_getElem?,a]
   first
    | (simp [a,undef]; done)
    | (rw [this]; simp [undef])
  | some v =>
   have:(⟨fr⟩:Array Value).getD s undef=v:=by simp [Array.getD_eq_getD_getElem?,a]
   first
    | (simp [a]; done)
    | (rw [this]; cases v <;> rfl)
theorem wanted_put {o p:Oper}{fr:List Value}{ds ds':List Deferred}{g:List Value→List Value}(g3:∀ (y:Operand),(∀ e,p.dst=some e→Bo y≠some e)→(F (g fr) ds).eval y=(F fr ds).eval y) (c:∀ e,p.dst=some e→(reads ops o).contains e=false) :
  Region.wanted o (yielded ops (F (g fr) ds').tmps)=Region.wanted o (yielded ops (F fr ds').tmps):=by
 have Qa:(F (g fr) ds').tmps=(F (g fr) ds).tmps:=rfl;have qa:(F fr ds').tmps=(F fr ds).tmps:=rfl;rw [Qa,qa];unfold Region.wanted;cases d:o.guard with
 | none=>rfl
 | some f =>
  obtain ⟨j,b⟩:=f;simp only;have:yielded ops (F (g fr) ds).tmps j=yielded ops (F fr ds).tmps j:=by
   rw [Pv,Pv];cases h:(ops[j]?).bind (·.dst) with
   | none=>rfl
   | some s =>
    simp only;rw [g3 (.tmp s) fun e he a=>by
     simp [Bo] at a;subst a;have:=c s he;unfold reads at this;rw [d] at this;simp [h] at this]
  first
   | rw [this]
   | simp [this]
theorem mv (s:vh Q){rd:Bool}{i d:Nat}{o:Oper}{v:Value}(A:ops[i]?=some o) (sb:o.dst=some d){wt:Bool}(B:wt=false→v=undef){w0:World} :
  ∀ (a b:List Nat) (fr:List Value) (ds:List Deferred) (w:World),
   (∀ j ∈ a,match ops[j]? with
    | some p=>zj p.op=true∧(reads ops p).contains d=false∧p.dst≠some d∧(∀ e,p.dst=some e→(reads ops o).contains e=false)∧(rd=true→quiet p.op=true)
    | none=>True) →
   (rd=true→w=w0)→zj o.op=true→Region.wanted o (yielded ops (F fr ds).tmps)=wt →
   (wt=true→∀ ds w,(rd=true→w=w0)→(execOp (F fr ds).eval o).run P w=.ok (.value v) w) →
   wpOps P ops Q (a++b) (F (fr.set d v) ds) w→wpOps P ops Q (a++i::b) (F fr ds) w
 | [],b,fr,ds,w,_,hw,t,c,u,h=>by
  simp only [List.nil_append] at h ⊢;simp only [wpOps,A];cases wt with
  | true =>
   rw [if_pos c];left;unfold Oper.wp;rw [u rfl ds w hw,Oper.upon_value,sb];rw [show (F fr ds).put (some d) v=F (fr.set d v) ds from ha rfl ds];exact h
  | false =>
   rw [if_neg (by rw [c];simp),sb,← B rfl];rw [show (F fr ds).put (some d) v=F (fr.set d v) ds from ha rfl ds];exact h
 | j::a,b,fr,ds,w,R,hw,t,c,u,h=>by
  have C:=R j (by simp);have S:∀ k ∈ a,_:=fun k l=>R k (by simp [l]);simp only [List.cons_append,wpOps] at h ⊢;cases T:ops[j]? with
  | none =>
   rw [T] at h;simp only at h ⊢;exact mv s A sb B a b fr ds w S hw t c u h
  | some p =>
   rw [T] at h C;simp only at h C ⊢;obtain ⟨U,D,Y,W,G⟩:=C;rw [vw (fr:=fr) (v:=v) (ds:=ds) (ds':=ds) D] at h;have key:∀ (x:Value) (w':World) (ds':List Deferred),(rd=true→w'=w0)→wpOps P ops Q (a++b) ((F (fr.set d v) ds').put p.dst x) w'→wpOps P ops Q (a++i::b) ((F fr ds').put p.dst x) w':=by
    intro x w' ds' m l;obtain ⟨g,g1,g2,g3⟩:=put_eq fr ds' p.dst x;have Z:=wanted_put (ops:=ops) (o:=o) (p:=p) (ds':=ds') (fun y H=>g3 fr y ds' ds' H) W;rw [g1] at l ⊢;rw [g2 _ _ _ Y] at l;refine mv s A sb B a b (g fr) ds' w' S m t (Z.trans c) (fun gc n hc lc=>?_) l;rw [show execOp (F (g fr) n).eval o=execOp (F fr n).eval o from execOp_congr o t fun y H=>g3 fr y n n fun e he rc=>by
     exact gu (W e he) y H rc]
    exact u gc n hc lc
   by_cases X:Region.wanted p (yielded ops (F fr ds).tmps)=true
   ·rw [if_pos X] at h ⊢;rcases h with h | h
    ·left;unfold Oper.wp at h ⊢;rw [Gp (ds':=ds) U D] at h;cases q:(execOp (F fr ds).eval p).run P w with
     | halt e w' =>
      rw [q] at h;cases e<;>first | exact h | exact s _ (F (fr.set d v) ds) _ w' rfl h
     | ok r w' =>
      rw [q] at h;have m:rd=true→w'=w0:=fun e=>(Ap (G e) q).1.trans (hw e);cases r with
      | value x=>exact key x w' ds m h
      | skip=>exact key undef w' ds m h
      | defer fd=>exact key undef w' (fd::ds) m h
      | enter f args =>
       have K:rd=true→False:=fun e=>by obtain ⟨_,x,M⟩:=Ap (G e) q;cases M
       rw [Oper.upon_enter] at h ⊢;refine Calls.mono h fun e z he=>?_;cases e with
       | returned x=>exact key x z ds (fun e=>(K e).elim) he
       | panicked id=>exact s id (F (fr.set d v) ds) _ z rfl he
       | outgrown=>exact he
      | row r args =>
       have K:rd=true→False:=fun e=>by obtain ⟨_,x,M⟩:=Ap (G e) q;cases M
       rw [Oper.upon_row] at h ⊢;exact Rows.mono h fun x z he=>key x z ds (fun e=>(K e).elim) he
      | _=>exact h
    ·right;refine ⟨?_,h.2⟩;have N:=h.1;unfold Oper.asks at N ⊢;rw [Gp (ds':=ds) U D] at N;exact N
   ·rw [if_neg X] at h ⊢;exact key undef w ds hw h
def bq (ops:Array Oper) (rd:Bool) (R:List Nat) (i:Nat):Bool :=
 match ops[i]? with
 | some o=>match o.dst with
  | some d=>zj o.op && R.all fun j=>j == i || (Rj ops j).contains i || (match ops[j]? with
    | some p=>zj p.op && !(reads ops p).contains d && p.dst != some d && (match p.dst with | some e=>!(reads ops o).contains e | none=>true) && (!rd || quiet p.op)
    | none=>true)
  | _=>false
 | none=>false
theorem qA {R Pd:List Nat}{i:Nat}{rd wt:Bool}{dst:Tmp}{op:Op}{ty:TypeId}{pos:String}{after:Array Edge}{k:Option (Nat×Bool)}{v:Value}(q:vh Q) (l:(decide R.Nodup && enabled ops R i && bq ops rd R i)=true) (r:R.erase i=Pd) (m:ops[i]?=some ⟨some dst,op,ty,pos,after,k⟩)
  (s:Region.wanted ⟨some dst,op,ty,pos,after,k⟩ (yielded ops (F fr ds).tmps)=wt) (t:wt=false→v=undef)
  (u:wt=true→∀ ds w',(rd=true→w'=w)→(execOp (F fr ds).eval ⟨some dst,op,ty,pos,after,k⟩).run P w'=.ok (.value v) w') (f:tc fr dst v V) (h:uf P ops Q Pd V ds w):uf P ops Q R fr ds w:=⟨fun M x=>by
 simp only [Bool.and_eq_true,decide_eq_true_eq] at l;obtain ⟨⟨y,n⟩,g⟩:=l;obtain ⟨z,A,rfl,B,C⟩:=x.split y (Yk n) n;unfold bq at g;simp only [m,Bool.and_eq_true,List.all_eq_true,Bool.or_eq_true,beq_iff_eq,List.contains_iff_mem] at g;unfold tc at f;subst f;subst r;refine mv q m rfl t (rd:=rd) (w0:=w) (v:=v) z A fr ds w (fun j D=>?_) (fun _=>rfl) g.1 s u (h.out _ B);obtain ⟨a,b,c⟩:=C j D;have:=g.2 j a;rcases this with (h | h) | h
 ·exact absurd h b
 ·exact absurd h c
 ·cases f:ops[j]? with
  | none=>trivial
  | some p =>
   rw [f] at h;simp only [Bool.and_eq_true,Bool.not_eq_true',bne_iff_ne,ne_eq,Bool.or_eq_true] at h;obtain ⟨⟨⟨⟨G,H⟩,K⟩,o⟩,d⟩:=h;refine ⟨G,H,K,fun e he=>?_,fun e=>?_⟩
   ·rw [he] at o;simpa using o
   ·rcases d with d | d
    ·rw [e] at d;cases d
    ·exact d⟩
theorem iu {o:Oper}{j d:Nat}{b b':Bool}(a:o.guard=some (j,b)) (c:(ops[j]?).bind (·.dst)=some d) (e:zc fr d (.bool b')):Region.wanted o (yielded ops (F fr ds).tmps)=(b' == b):=by
 unfold Region.wanted;rw [a];simp only;have:yielded ops (F fr ds).tmps j=some b':=by
  rw [Pv,c];simp only;rw [aa e ds]
 rw [this];cases b<;>cases b'<;>rfl
theorem LG {R Pd:List Nat}{i j d:Nat}{b:Bool}{dst:Tmp}{op:Op}{ty:TypeId}{pos:String}{after:Array Edge}{v:Value}(a:vh Q) (c:(decide R.Nodup && enabled ops R i && bq ops false R i)=true) (e:R.erase i=Pd) (f:ops[i]?=some ⟨some dst,op,ty,pos,after,some (j,b)⟩) (g:(ops[j]?).bind (·.dst)=some d) (k:zc fr d (.bool b))
  (l:cf P ⟨some dst,op,ty,pos,after,some (j,b)⟩ fr v) (m:tc fr dst v V) (h:uf P ops Q Pd V ds w):uf P ops Q R fr ds w :=
 qA (wt:=true) a c e f ((iu rfl g k).trans (by cases b<;>rfl)) (fun h=>by cases h) (fun _ ds w' _=>l.out ds w') m h
theorem MG {R Pd:List Nat}{i j d:Nat}{b b':Bool}{dst:Tmp}{op:Op}{ty:TypeId}{pos:String}{after:Array Edge}(a:vh Q) (c:(decide R.Nodup && enabled ops R i && bq ops false R i)=true) (e:R.erase i=Pd) (f:ops[i]?=some ⟨some dst,op,ty,pos,after,some (j,b)⟩) (g:(ops[j]?).bind (·.dst)=some d) (k:zc fr d (.bool b')) (l:(b' == b)=false)
  (m:tc fr dst undef V) (h:uf P ops Q Pd V ds w):uf P ops Q R fr ds w :=
 qA (wt:=false) a c e f ((iu rfl g k).trans l) (fun _=>rfl) (fun h=>by cases h) m h
theorem ib {o:Oper}(a:o.guard=none):Region.wanted o (yielded ops (F fr ds).tmps)=true:=by simp [Region.wanted,a]
theorem Ip {o:Oper}{j d:Nat}{b:Bool}(a:o.guard=some (j,b)) (c:(ops[j]?).bind (·.dst)=some d) (e:zc fr d (.bool b)):Region.wanted o (yielded ops (F fr ds).tmps)=true :=
 (iu a c e).trans (by cases b<;>rfl)
theorem Lg {R:List Nat}{i j:Nat}{d f:List Nat}{a b:Oper}(g:Io ops R=[i,j]) (h:R.erase i=d) (l:R.erase j=f) (fb:ops[i]?=some a) (m:ops[j]?=some b) (n:Region.wanted a (yielded ops (F fr ds).tmps)=true) (o:Region.wanted b (yielded ops (F fr ds).tmps)=true)
  (p:Nd P a fr ds w (uf P ops Q d) Q) (q:Nd P b fr ds w (uf P ops Q f) Q):uf P ops Q R fr ds w :=
 Zx (by intro e;subst e;cases g) fun k c=>by
  rw [g] at c;simp at c;rcases c with rfl | rfl
  ·exact ⟨_,fb,by rw [if_pos n,h];exact p⟩
  ·exact ⟨_,m,by rw [if_pos o,l];exact q⟩
theorem Km {R:List Nat}{i j k:Nat}{d f g:List Nat}{a b ok:Oper}(h:Io ops R=[i,j,k]) (l:R.erase i=d) (m:R.erase j=f) (n:R.erase k=g) (fb:ops[i]?=some a) (o:ops[j]?=some b) (p:ops[k]?=some ok) (r:Region.wanted a (yielded ops (F fr ds).tmps)=true) (s:Region.wanted b (yielded ops (F fr ds).tmps)=true) (t:Region.wanted ok (yielded ops (F fr ds).tmps)=true)
  (u:Nd P a fr ds w (uf P ops Q d) Q) (v:Nd P b fr ds w (uf P ops Q f) Q) (x:Nd P ok fr ds w (uf P ops Q g) Q):uf P ops Q R fr ds w :=
 Zx (by intro e;subst e;cases h) fun q c=>by
  rw [h] at c;simp at c;rcases c with rfl | rfl | rfl
  ·exact ⟨_,fb,by rw [if_pos r,l];exact u⟩
  ·exact ⟨_,o,by rw [if_pos s,m];exact v⟩
  ·exact ⟨_,p,by rw [if_pos t,n];exact x⟩
theorem rC {R:List Nat}{Wg Xg:List Value}{d:Nat}{b:Bool}(a:zc fr d (.bool b)) (c:tc fr d (.bool true) Wg) (e:tc fr d (.bool false) Xg)
  (f:b=true→uf P ops Q R Wg ds w) (g:¬ b=true→uf P ops Q R Xg ds w):uf P ops Q R fr ds w:=by
 cases b with
 | true=>have:=f rfl; rw [tc.same a c] at this; exact this
 | false=>have:=g (by simp); rw [tc.same a e] at this; exact this
theorem On {R:List Nat}{Wg Xg:List Value}{d:Nat}{p:Prop}[Decidable p] (a:zc fr d (.bool (decide p))) (b:tc fr d (.bool true) Wg) (c:tc fr d (.bool false) Xg)
  (e:p→uf P ops Q R Wg ds w) (f:¬ p→uf P ops Q R Xg ds w):uf P ops Q R fr ds w :=
 rC a b c (fun h=>e (of_decide_eq_true h)) (fun h=>f fun g=>h (decide_eq_true g))
end
end Go.vc
namespace Go.vc
open Go.RowKit
section
variable {P:Program}{Q:Exit→Act→World→Prop}{ops:Array Oper}{fr V:List Value}{ds:List Deferred}{w:World}
def waits (ops:Array Oper) (R S:List Nat) (i:Nat):Bool:=S.all fun j=>j == i || S.any fun k=>(Rj ops j).contains k && R.contains k
theorem dk.later {R d:List Nat}(h:dk ops R d) (m:R.Nodup){i:Nat}{S:List Nat}(n:∀ j ∈ S,j=i∨∃ k ∈ S,k ∈ Rj ops j∧k ∈ R):∀ a c,d=a++i::c→i ∉ a→∀ j ∈ a,j ∉ S:=by
 induction h with
 | z=>intro a c h; simp at h
 | @s R d k o t p =>
  intro a c h fb j b;cases a with
  | nil=>cases b
  | cons e a =>
   simp only [List.cons_append,List.cons.injEq] at h;obtain ⟨rfl,h⟩:=h;have he:k ∉ S:=fun hm=>by
    rcases n k hm with rfl | ⟨q,f,g,l⟩
    ·exact fb (by simp)
    ·exact Iz o g l
   rcases List.mem_cons.1 b with rfl | b
   ·exact he
   ·refine p (m.erase k) (fun j b=>?_) a c h (fun hm=>fb (by simp [hm])) j b;rcases n j b with rfl | ⟨q,f,g,l⟩
    ·exact .inl rfl
    ·exact .inr ⟨q,f,g,(m.mem_erase_iff).2 ⟨fun e=>he (e ▸ f),l⟩⟩
def cq (ops:Array Oper) (S R:List Nat) (i:Nat):Bool :=
 match ops[i]? with
 | some o=>match o.dst with
  | some d=>zj o.op && R.all fun j=>S.contains j || (match ops[j]? with
    | some p=>zj p.op && !(reads ops p).contains d && p.dst != some d && (match p.dst with | some e=>!(reads ops o).contains e | none=>true) && quiet p.op
    | none=>true)
  | _=>false
 | none=>false
theorem rA {R Pd:List Nat}{i:Nat}(S:List Nat){wt:Bool}{dst:Tmp}{op:Op}{ty:TypeId}{pos:String}{after:Array Edge}{m:Option (Nat×Bool)}{v:Value}(A:vh Q) (n:(decide R.Nodup && enabled ops R i && waits ops R S i && cq ops S R i)=true) (B:R.erase i=Pd) (o:ops[i]?=some ⟨some dst,op,ty,pos,after,m⟩)
  (C:Region.wanted ⟨some dst,op,ty,pos,after,m⟩ (yielded ops (F fr ds).tmps)=wt) (D:wt=false→v=undef)
  (G:wt=true→∀ ds w',w'=w→(execOp (F fr ds).eval ⟨some dst,op,ty,pos,after,m⟩).run P w'=.ok (.value v) w') (f:tc fr dst v V) (h:uf P ops Q Pd V ds w):uf P ops Q R fr ds w:=⟨fun Y q=>by
 simp only [Bool.and_eq_true,decide_eq_true_eq] at n;obtain ⟨⟨⟨r,s⟩,t⟩,g⟩:=n;obtain ⟨u,x,rfl,H,y⟩:=q.split r (Yk s) s;have K:=dk.later (S:=S) q r (fun j l=>by
  unfold waits at t;have:=List.all_eq_true.1 t j l;simp only [Bool.or_eq_true,beq_iff_eq,List.any_eq_true,Bool.and_eq_true,List.contains_iff_mem] at this;rcases this with h | ⟨k,k1,M,N⟩
  ·exact .inl h
  ·exact .inr ⟨k,k1,M,N⟩) u x rfl (fun hm=>(y i hm).2.1 rfl)
 unfold cq at g;simp only [o,Bool.and_eq_true,List.all_eq_true,Bool.or_eq_true,List.contains_iff_mem] at g;unfold tc at f;subst f;subst B;refine mv A o rfl D (rd:=true) (w0:=w) (v:=v) u x fr ds w (fun j l=>?_) (fun _=>rfl) g.1 C (fun a b c d=>G a b c (d rfl)) (h.out _ H);obtain ⟨a,b,c⟩:=y j l;have:=g.2 j a;rcases this with h | h
 ·exact absurd h (K j l)
 ·cases f:ops[j]? with
  | none=>trivial
  | some p =>
   rw [f] at h;simp only [Bool.and_eq_true,Bool.not_eq_true',bne_iff_ne,ne_eq] at h;obtain ⟨⟨⟨⟨T,U⟩,W⟩,z⟩,X⟩:=h;refine ⟨T,U,W,fun e he=>?_,fun e=>X⟩;rw [he] at z;simpa using z⟩
theorem NG {R Pd:List Nat}{i:Nat}(S:List Nat){dst:Tmp}{op:Op}{ty:TypeId}{pos:String}{after:Array Edge}{v:Value}(a:vh Q) (b:(decide R.Nodup && enabled ops R i && waits ops R S i && cq ops S R i)=true) (c:R.erase i=Pd) (d:ops[i]?=some ⟨some dst,op,ty,pos,after,none⟩)
  (e:Yj P ⟨some dst,op,ty,pos,after,none⟩ fr w v) (f:tc fr dst v V) (h:uf P ops Q Pd V ds w):uf P ops Q R fr ds w :=
 rA S (wt:=true) a b c d (ib rfl) (fun h=>by cases h) (fun _ ds w' hw=>by rw [hw];exact e.out ds) f h
theorem CF {R Pd:List Nat}{i j d:Nat}{b:Bool}(S:List Nat){dst:Tmp}{op:Op}{ty:TypeId}{pos:String}{after:Array Edge}{v:Value}(a:vh Q) (c:(decide R.Nodup && enabled ops R i && waits ops R S i && cq ops S R i)=true) (e:R.erase i=Pd) (f:ops[i]?=some ⟨some dst,op,ty,pos,after,some (j,b)⟩) (g:(ops[j]?).bind (·.dst)=some d) (k:zc fr d (.bool b))
  (l:Yj P ⟨some dst,op,ty,pos,after,some (j,b)⟩ fr w v) (m:tc fr dst v V) (h:uf P ops Q Pd V ds w):uf P ops Q R fr ds w :=
 rA S (wt:=true) a c e f (Ip rfl g k) (fun h=>by cases h) (fun _ ds w' hw=>by rw [hw];exact l.out ds) m h
end
end Go.vc
namespace Go.vc
open Go.RowKit
section
variable {P:Program}{Q:Exit→Act→World→Prop}{K:List Value→List Deferred→World→Prop}{fr V:List Value}{ds:List Deferred}{w:World}
variable {dst:Option Tmp}{ty:TypeId}{pos:String}{after:Array Edge}{g:Option (Nat×Bool)}
variable {S Qd:Nat→Prop}{w0:World}{rs rs':List Fb}{A:World→Prop}
variable {T:TypeId}{d:TypeDesc}{Ef:Bool}{Hd:List Value}{n m:Nat}
inductive dq (fr:List Value) (n:Nat):Nat→List (Nat×Operand)→List Value→Prop where
 | z {i:Nat}:dq fr n i [] []
 | s {i:Nat} {x:Operand} {v:Value} {cs rest:List Value} {xs:List (Nat×Operand)} (a:pb fr x v) (b:v.cells=⟨cs⟩) (c:cs.length=n) (t:dq fr n (i+1) xs rest):dq fr n i ((i,x)::xs) (cs++rest)
theorem dq.fill {i:Nat}{xs:List (Nat×Operand)}{cells:List Value}(h:dq fr n i xs cells):∀ a:List Value,a.length=i*n+cells.length →
  Instr.fill (fun i=>some (i*n,n)) ⟨a⟩ (xs.map fun p=>(p.1,(F fr ds).eval p.2))=some ⟨a.take (i*n)++cells⟩:=by
 induction h with
 | z=>intro a b; simp at b; simp [Instr.fill,← b]
 | @s i x v cs rest xs f g c t j =>
  intro a b;simp only [List.length_append] at b;have d:(i+1)*n=i*n+n:=by rw [Nat.add_mul,Nat.one_mul]
  simp only [List.map_cons,Instr.fill,f ds,g];have Qa:¬ (((⟨cs⟩:Array Value).size≠n || i*n+(⟨cs⟩:Array Value).size > (⟨a⟩:Array Value).size)=true):=by simp [c,b]
  rw [if_neg Qa];have k:=ks cs (i*n) 0 a (by omega);have qa:(⟨cs⟩:Array Value).zipIdx.toList=cs.zipIdx 0:=by simp
  have e:(⟨cs⟩:Array Value).zipIdx.foldl (fun (cs:Array Value) (p:Value×Nat)=>cs.setIfInBounds (i*n+p.2) p.1) ⟨a⟩=⟨a.take (i*n+0)++cs++a.drop (i*n+0+cs.length)⟩:=by
   rw [← Array.foldl_toList,qa];exact k
  first
   | rw [e]
   | (erw [e])
  rw [j _ (by simp [d,c,b];omega)];congr 2;rw [d,c,Nat.add_zero];have:(a.take (i*n)++cs).length=i*n+n:=by simp [c];omega
  rw [← this,List.take_left,List.append_assoc]
theorem fq {e:TypeId}{len:Nat}{xs:List (Nat×Operand)}{cells:List Value}(f:P.underlying T=some (.slice e)) (c:Mc P e Ef Hd n m) (a:(decide (0<n) && decide (n≤1000) && decide (0<len) && decide (len≤1000))=true) (j:dq fr n 0 xs cells) (k:cells.length=len*n) (l:Sep S Qd w0 w rs A)
  (h:∀ b w',w.heap.size≤b→Sep S Qd w0 w' (.ba b e cells::rs) A→Qg fr dst (.slice (some ⟨b,0,none⟩) len len) fun V=>K V ds w'):Nd P (Oper.mk dst (.buildSlice T len ⟨xs⟩) ty pos after g) fr ds w K Q:=by
 obtain ⟨V,sb⟩:=Jh fr dst (.slice (some ⟨w.heap.size,0,none⟩) len len);refine bh (v:=.slice (some ⟨w.heap.size,0,none⟩) len len) (w':=w.alloc (.cells ⟨cells⟩ e)) ?_ sb (h _ _ (Nat.le_refl _) (l.alloc rfl (heap_alloc_new w _)) V sb);obtain ⟨z,o,hc⟩:=c.zero (w:=w);have q:=c.sizeOf (w:=w);simp only [Bool.and_eq_true,decide_eq_true_eq] at a;have hmul:len*n≤1000*1000:=Nat.mul_le_mul a.2 a.1.1.2;have r:¬ (len*n > 2 ^ 24):=by omega
 have s:¬ (len*n=0):=by
  have:=Nat.mul_pos a.1.2 a.1.1.1;omega
 have t:((⟨xs⟩:Array (Nat×Operand)).map fun (i,x)=>(i,(F fr ds).eval x)).toList=xs.map fun p=>(p.1,(F fr ds).eval p.2):=by simp
 have d:=j.fill (ds:=ds) ((Array.range (len*n)).map (z.cells[· % z.cells.size]!)).toList (by simp [k]);simp only [execOp,Instr.buildSlice,Sem.run_bind,run_underlying f,Result.andThen_ok,q,if_neg r,if_neg s,o,Sem.run_pure,t];have u:(⟨((Array.range (len*n)).map (z.cells[· % z.cells.size]!)).toList⟩:Array Value)=(Array.range (len*n)).map (z.cells[· % z.cells.size]!):=rfl;rw [u] at d;simp only [d];simp [newRow]
structure Tr (P:Program) (c:Code) (Q:Exit→Act→World→Prop) (n:Nat) (fr:List Value) (ds:List Deferred) (w:World):Prop where
 out:Code.rounds P c Q n (F fr ds) w
theorem Fx {c:Code}(n:Nat) (h:Tr P c Q n fr ds w):Fe P (.loop c) Q fr ds w:=⟨wp_loop_rounds n h.out⟩
theorem ql {c:Code}{n:Nat}(h:Fe P c (Exit.then (fun a w=>∃ fr ds,a=F fr ds∧Tr P c Q n fr ds w) Q) fr ds w):Tr P c Q (n+1) fr ds w:=⟨by
 rw [rounds_succ];refine wp_mono h.out fun e a w b=>?_;cases e with
 | normal=>obtain ⟨fr,ds,rfl,h⟩:=b; exact h.out
 | exit id=>exact b
 | goto l=>exact b
 | ret=>exact b
 | panic d=>exact b
 | outgrown=>exact b⟩
theorem Pn {c:Code}{n:Nat}(h:Tr P c Q n fr ds w):Exit.then (fun a w=>∃ fr ds,a=F fr ds∧Tr P c Q n fr ds w) Q .normal (F fr ds) w:=⟨_,_,rfl,h⟩
theorem gB {f:Operand}{xs:List Operand}{tys:Array TypeId}{k:FuncId}{first cap vs:List Value}{R:Value→World→Prop}(b:Lb P k) (c:pb fr f (.func (.func k) ⟨first⟩ ⟨cap⟩)) (d:Ak fr xs vs)
  (hc:Ab P k (first++vs++cap) w R) (h:∀ v w',R v w'→Qg fr dst v fun V=>K V ds w'):Nd P (Oper.mk dst (.call { callee:=.value f,args:=⟨xs⟩,argTypes:=tys }) ty pos after g) fr ds w K Q:=by
 refine xu (args:=first++vs++cap) ?_ hc h;have i:=c ds;have j:=d ds;have a:=b.out ⟨first++vs++cap⟩ w;have e:(⟨first⟩:Array Value)++(⟨vs⟩:Array Value)++(⟨cap⟩:Array Value)=⟨first++vs++cap⟩:=by
  apply Array.ext';simp
 simp only [List.append_assoc] at a e ⊢;simp [execOp,resolve,i,Deferred.ofValue,invoke,j];first
  | exact a
  | (simpa using a)
end
end Go.vc
namespace Go.hd
open Go.vc Go.RowKit
section
variable {P:Program}{Q:Exit→Act→World→Prop}{K:List Value→List Deferred→World→Prop}{fr V:List Value}{ds:List Deferred}{w:World}
variable {dst:Option Tmp}{ty:TypeId}{pos:String}{after:Array Edge}{g:Option (Nat×Bool)}
variable {w0:World}{rs rs':List Fb}{μ I:M}
variable {T:TypeId}{d:TypeDesc}{Ef:Bool}{Hd:List Value}{n m:Nat}
def okV (R:Value→World→Prop):Ending→World→Prop
 | .returned v,w=>R v w
 | _,_=>False
def iq (P:Program) (fn:Func) (R:Value→World→Prop):Exit→Act→World→Prop
 | .panic _,_,_=>False
 | e,a,w=>bodyPostD P fn (okV R) e a w
theorem pr {f:FuncId}{fn:Func}{c:Code}{args frm:List Value}{R:Value→World→Prop}(d:P.funcs[f]?=some fn) (g:fn.body=some c)
  (i:args++List.replicate (fn.ntmps - args.length) undef=frm) (h:Fe P c (iq P fn R) frm [] w):Ab P f args w R:=by
 refine ⟨Calls.mono (calls_of_wp_defers (R:=okV R) d g ?_) fun e w he=>by cases e<;>exact he⟩;subst i;have qa:(⟨args⟩:Array Value)++Array.replicate (fn.ntmps - args.length) undef=⟨args++List.replicate (fn.ntmps - args.length) undef⟩:=by
  apply Array.ext';simp
 have h:=wp_mono h.out (Q':=bodyPostD P fn (okV R)) fun e a w b=>by
  cases e<;>first | exact b | exact (False.elim b)
 simpa [F,qa] using h
structure Au (P:Program) (f:FuncId) (args:List Value) (w:World) (R:Value→World→Prop):Prop where
 out:∀ u,CallsD P f ⟨args⟩ u w fun e a w'=>a=u∧okV R e w'
theorem hB {f:FuncId}{fn:Func}{c:Code}{args frm:List Value}{R:Value→World→Prop}(d:P.funcs[f]?=some fn) (g:fn.body=some c)
  (j:args++List.replicate (fn.ntmps - args.length) undef=frm) (h:Fe P c (Nn P fn R) frm [] w):Au P f args w R:=by
 refine ⟨fun u=>callsD_of_wp d g ?_⟩;subst j;have qa:(⟨args⟩:Array Value)++Array.replicate (fn.ntmps - args.length) undef=⟨args++List.replicate (fn.ntmps - args.length) undef⟩:=by
  apply Array.ext';simp
 have h:=wp_mono h.out (Q':=bodyPost P fn (okV R)) fun e a w b=>by
  cases e with
  | normal=>exact b
  | ret=>exact b
  | panic k=>exact b
  | exit i=>exact b
  | goto l=>exact b
  | outgrown=>exact b
 simpa [F,qa] using h
theorem pn {f:Operand}{xs:List Operand}{tys:Array TypeId}{k:FuncId}{cap vs:List Value}(a:pb fr f (.func (.func k) #[] ⟨cap⟩)) (b:Ak fr xs vs)
  (c:tf fr dst undef V) (h:K V (⟨.fn (.func k) ⟨cap⟩,⟨vs⟩⟩::ds) w):Nd P (Oper.mk dst (.defer { callee:=.value f,args:=⟨xs⟩,argTypes:=tys }) ty pos after g) fr ds w K Q:=by
 constructor;intro l d;have e:=a ds;have i:=b ds;have j:(execOp (F fr ds).eval (Oper.mk dst (.defer { callee:=.value f,args:=⟨xs⟩,argTypes:=tys }) ty pos after g)).run P w=.ok (.defer ⟨.fn (.func k) ⟨cap⟩,⟨vs⟩⟩) w:=by
  simp [execOp,resolve,e,Deferred.ofValue,i]
 unfold Oper.wp;rw [j];have:=d _ _ _ h;rw [← c _] at this;simpa [Oper.upon,F,Act.put] using this
theorem No {fn:Func}{R a:Value→World→Prop}{k:FuncId}{cap vs:List Value}(b:Lb P k) (hc:Au P k (vs++cap) w a) (h:∀ v w',a v w'→iq P fn R .ret (F fr ds) w') :
  iq P fn R .ret (F fr (⟨.fn (.func k) ⟨cap⟩,⟨vs⟩⟩::ds)) w:=by
 refine ⟨by simp,.func k,⟨cap⟩,k,⟨vs++cap⟩,rfl,?_,?_⟩
 ·have:=b.out ⟨vs++cap⟩ w;simp [invoke,this]
 ·refine (hc.out .returning).mono fun e d w' he=>?_;obtain ⟨rfl,he⟩:=he;cases e with
  | returned v=>exact h v w' he
  | panicked c=>exact he.elim
  | outgrown=>exact he.elim
theorem Ql {fn:Func}{R:Value→World→Prop}{a:List ResultVar}{vs:List Value}(b:fn.results=⟨a⟩) (c:Xb P fr w a vs) (h:R (nq vs) w):iq P fn R .ret (F fr []) w :=
 ⟨_,Hz b c,h⟩
def Xa (ms:List (Nat×List MapEntry×Nat)):List Fb:=(ms.map fun m=>.map m.1 m.2.1 m.2.2).reverse
def td (ms:List (Nat×List MapEntry×Nat)):List Value:=ms.map fun m=>.map (some m.1)
variable {κ β:Type}[DecidableEq κ] [zb κ] [Hh β]
def Xd (μ:M):List (Nat×List MapEntry×Nat)→List (List (κ×β))→Prop
 | [],a=>a=[]
 | m::ms,a=>∃ x t,a=x::t∧Ed μ m.2.1 m.2.2 x∧Xd μ ms t
theorem Xd.up (l:ga μ I):∀ {ms:List (Nat×List MapEntry×Nat)}{a:List (List (κ×β))},Xd μ ms a→Xd I ms a
 | [],a,h=>by rw [Xd] at h ⊢; exact h
 | m::ms,a,h=>by
  rw [Xd] at h ⊢;obtain ⟨x,t,b,c,d⟩:=h;exact ⟨x,t,b,c.up l,Xd.up l d⟩
theorem Xd.get:∀ {ms:List (Nat×List MapEntry×Nat)}{d:List (List (κ×β))}{i:Nat}{x:List (κ×β)},Xd μ ms d→d[i]?=some x→∃ b es c,ms[i]?=some (b,es,c)∧Ed μ es c x
 | [],d,i,x,h,a=>by rw [Xd] at h; subst h; simp at a
 | m::ms,d,i,x,h,a=>by
  rw [Xd] at h;obtain ⟨y,t,rfl,e,f⟩:=h;cases i with
  | zero=>simp at a; subst a; exact ⟨m.1,m.2.1,m.2.2,rfl,e⟩
  | succ i=>simp at a; simpa using Xd.get f a
theorem Xd.set:∀ {ms:List (Nat×List MapEntry×Nat)}{a:List (List (κ×β))}{i:Nat}{e:Nat×List MapEntry×Nat}{x:List (κ×β)},Xd μ ms a→Ed μ e.2.1 e.2.2 x→Xd μ (ms.set i e) (a.set i x)
 | [],a,i,e,x,h,b=>by rw [Xd] at h; subst h; simp [Xd]
 | m::ms,a,i,e,x,h,b=>by
  rw [Xd] at h;obtain ⟨y,t,rfl,d,c⟩:=h;cases i with
  | zero=>exact ⟨x,t,rfl,b,c⟩
  | succ i=>exact ⟨y,_,rfl,d,Xd.set c b⟩
theorem Xd.push:∀ {ms:List (Nat×List MapEntry×Nat)}{a:List (List (κ×β))}{e:Nat×List MapEntry×Nat}{x:List (κ×β)},Xd μ ms a→Ed μ e.2.1 e.2.2 x→Xd μ (ms++[e]) (a++[x])
 | [],a,e,x,h,b=>by rw [Xd] at h; subst h; exact ⟨x,[],rfl,b,rfl⟩
 | m::ms,a,e,x,h,b=>by
  rw [Xd] at h;obtain ⟨y,t,rfl,c,d⟩:=h;exact ⟨y,_,rfl,c,Xd.push d b⟩
theorem Xd.take:∀ {ms:List (Nat×List MapEntry×Nat)}{a:List (List (κ×β))}(j:Nat),Xd μ ms a→Xd μ (ms.take j) (a.take j)
 | [],a,j,h=>by rw [Xd] at h; subst h; simp [Xd]
 | m::ms,a,j,h=>by
  rw [Xd] at h;obtain ⟨y,t,rfl,b,c⟩:=h;cases j with
  | zero=>simp [Xd]
  | succ j=>exact ⟨y,_,rfl,b,Xd.take j c⟩
theorem NC (ms:List (Nat×List MapEntry×Nat)) (e:Nat×List MapEntry×Nat):Xa (ms++[e])=.map e.1 e.2.1 e.2.2::Xa ms:=by simp [Xa]
theorem bD {ms:List (Nat×List MapEntry×Nat)}{i b c c':Nat}{es a:List MapEntry}(h:ms[i]?=some (b,es,c)):td (ms.set i (b,a,c'))=td ms:=by
 unfold td;refine List.ext_getElem? fun j=>?_;rw [List.getElem?_map,List.getElem?_map,List.getElem?_set];split
 ·rename_i d;subst d;have e:=(List.getElem?_eq_some_iff.1 h).1;rw [if_pos e,h];rfl
 ·rfl
theorem cD {ms:List (Nat×List MapEntry×Nat)}{i b c:Nat}{es:List MapEntry}(h:ms[i]?=some (b,es,c)):Fb.map b es c ∈ Xa ms:=by
 unfold Xa;rw [List.mem_reverse,List.mem_map];exact ⟨(b,es,c),List.mem_of_getElem? h,rfl⟩
theorem _root_.Go.vc.Sep.bC {pre:List Fb}{ms:List (Nat×List MapEntry×Nat)}{i b c:Nat}{es:List MapEntry}(a:la μ w0 w (pre++(Xa ms++rs))) (h:ms[i]?=some (b,es,c)):w.heap[b]?=some (.map ⟨es⟩ c):=
 a.all (.map b es c) (by simp [cD h])
theorem Row.mapElem {v:Value}{ms:List (Nat×List MapEntry×Nat)}{d:List (List (κ×β))}{i:Int}{x:List (κ×β)}(h:Row w v T 1 d.length (td ms)) (hm:Xd μ ms d) (g:at_ d i=some x) :
  ∃ b o a es c,Lj v 1 i b o∧(∀ w T,Row w v T 1 d.length (td ms)→Zi w b o [.map (some a)])∧ms[i.toNat]?=some (a,es,c)∧Ed μ es c x:=by
 obtain ⟨l,m,n⟩:=yr g;obtain ⟨a,es,c,f,p⟩:=hm.get n;obtain ⟨b,o,s,rfl,hc⟩:=h.Ho (by omega);refine ⟨b,o+i.toNat,a,es,c,⟨o,_,_,rfl,l,m,by simp⟩,fun t y q j u e=>?_,f,p⟩;obtain ⟨b',z,c',k,r⟩:=q.Ho (by omega);simp at k;obtain ⟨⟨rfl,rfl⟩,rfl⟩:=k;cases j with
 | succ j=>simp at e
 | zero =>
  simp at e;subst e;have:(td ms)[i.toNat]?=some (.map (some a)):=by unfold td;rw [List.getElem?_map,f];rfl
  exact r _ _ this
theorem fl {x y z:Operand}{df aa:TypeId}{v:Value}{pre:List Fb}{ms:List (Nat×List MapEntry×Nat)}{b c i:Nat}{es:List MapEntry}{kk:κ}{q:List (κ×β)}{xx:β}{d:List (List (κ×β))}(n:P.underlying T=some (.map df aa)) (o:P.underlying df=some (zb.xl (κ:=κ))) (p:pb fr x (.map (some b))) (r:pb fr y (zb.key kk)) (s:pb fr z v) (t:Hh.kj μ v xx)
  (u:la μ w0 w (pre++(Xa ms++rs))) (fb:ms[i]?=some (b,es,c)) (he:Ed μ es c q) (hm:Xd μ ms d)
  (sb:tf fr dst undef V) (h:∀ f w',Xd μ f (d.set i (ye q kk xx))→td ms=td f→d.length=(d.set i (ye q kk xx)).length→la μ w0 w' (pre++(Xa f++rs))→K V ds w'):Nd P (Oper.mk dst (.mapUpdate T x y z) ty pos after g) fr ds w K Q:=by
 have B:=(List.getElem?_eq_some_iff.1 fb).1;have A:(pre++(Xa ms++rs))[pre.length+(ms.length - 1 - i)]?=some (.map b es c):=by
  rw [List.getElem?_append_right (by omega),Nat.add_sub_cancel_left,List.getElem?_append_left (by simp [Xa];omega)];unfold Xa;rw [List.getElem?_reverse (by simp;omega),List.length_map,show ms.length - 1 - (ms.length - 1 - i)=i by omega,List.getElem?_map,fb];rfl
 refine FB n o p r (zb.df kk) s u A he.Ff.keys sb fun w' rs' k l=>h _ w' (hm.set (e:=(b,putAt es c (zb.key kk) v,Ul es c (zb.key kk))) (he.put kk t)) (bD fb).symm (by simp) ?_;unfold tc at k;subst k;have e:(pre++(Xa ms++rs)).set (pre.length+(ms.length - 1 - i)) (.map b (putAt es c (zb.key kk) v) (Ul es c (zb.key kk)))=pre++(Xa (ms.set i (b,putAt es c (zb.key kk) v,Ul es c (zb.key kk)))++rs):=by
  rw [List.set_append_right _ _ (by omega),Nat.add_sub_cancel_left,List.set_append_left _ _ (by simp [Xa];omega)];congr 2;unfold Xa;rw [List.map_set];refine List.ext_getElem? fun j=>?_;rcases Nat.lt_or_ge j ms.length with a | a
  ·rw [List.getElem?_set,List.getElem?_reverse (by simpa using a),List.getElem?_reverse (by simpa using a)];simp only [List.length_map,List.length_reverse,List.length_set,List.getElem?_set];by_cases m:ms.length - 1 - i=j
   ·rw [if_pos m,if_pos (by omega),if_pos (by omega),if_pos (by omega)]
   ·rw [if_neg m,if_neg (by omega)]
  ·rw [List.getElem?_eq_none (by simpa using a),List.getElem?_eq_none (by simpa using a)]
 rw [e] at l;exact l
theorem HB {t:TypeId}{s x:Operand}{v:Value}{bytes k b d c:Nat}{ms:List (Nat×List MapEntry×Nat)}{e f:List (List (κ×β))}(i:P.underlying t=some (.slice T)) (j:Mc P T Ef Hd 1 bytes) (l:Hd.length=1)
  (m:pb fr s v) (n:pb fr x (.slice (some ⟨b,0,none⟩) 1 c)) (o:la μ w0 w rs) (p:zc rs k (.row v T 1 e.length (td ms))) (q:Zi w b 0 [.map (some d)]) (r:app e [([]:List (κ×β))]=some f) (u:bytes≤4096)
  (h:∀ a w' rs',tc rs k (.row a T 1 f.length (td ms++[.map (some d)])) rs'→la μ w0 w' rs'→Qg fr dst a fun V=>K V ds w') :
  Nd P (Oper.mk dst (.call { callee:=.builtin .append,args:=#[s,x],argTypes:=#[t,t] }) ty pos after g) fr ds w K Q:=by
 obtain ⟨y,z⟩:=zu r;refine Xq i j (by simp [l]) m n o p q rfl rfl ⟨z,u⟩ fun a w' rs' A=>h a w' rs' (by rw [y];exact A)
theorem _root_.Go.vc.Sep.cC {pre:List Fb}{ms:List (Nat×List MapEntry×Nat)}{b c:Nat}{es:List MapEntry}(a:la μ w0 w (pre++(.map b es c::(Xa ms++rs)))):la μ w0 w (pre++(Xa (ms++[(b,es,c)])++rs)):=by
 rw [NC];exact a
theorem Az (ms:List (Nat×List MapEntry×Nat)) (b c:Nat) (es:List MapEntry):td ms++[.map (some b)]=td (ms++[(b,es,c)]):=by simp [td]
theorem _root_.Go.vc.Sep.nv {pre:List Fb}{ms:List (Nat×List MapEntry×Nat)}{j:Nat}(a:la μ w0 w (pre++(Xa ms++rs))):la μ w0 w (pre++(Xa (ms.take j)++rs)):=by
 have c:(pre++(Xa (ms.take j)++rs)).Sublist (pre++(Xa ms++rs)):=by
  refine (List.Sublist.refl pre).append (List.Sublist.append ?_ (List.Sublist.refl rs));unfold Xa;exact ((List.take_sublist j ms).map _).reverse
 refine ⟨a.keeps,fun r e=>a.all r (c.subset e),(c.filterMap _).nodup a.ki,fun b f=>a.new b ((c.filterMap _).subset f),?_⟩;refine a.Di.mono fun k _ d=>⟨d.1,fun hm=>d.2 ((c.filterMap Fb.block).subset hm)⟩
theorem Row.dC {v:Value}{sz:Nat}{xs:List Value}{j:Int}(h:Row w v T sz n xs) (e:0≤j) (r:j≤n) :
  ∃ b,Wn v sz none (some j) b∧b.ownBlock=v.ownBlock∧∀ w T,Row w v T sz n xs→Row w b T sz j.toNat (xs.take (j.toNat*sz)):=by
 have c:∀ w T,Row w v T sz n xs→(xs.take (j.toNat*sz)).length=j.toNat*sz:=fun w T h=>by
  rw [List.length_take,h.1];exact Nat.min_eq_left (Nat.mul_le_mul_right _ (by omega))
 rcases h.2 with ⟨rfl,rfl⟩ | ⟨g,o,cap,cur,rfl,s,t,u,x,y⟩
 ·have:j=0:=by omega
  subst this;exact ⟨.slice none 0 0,⟨none,0,0,rfl,by simp,by simp,by simp,by simp⟩,rfl,fun w T h=>⟨c w T h,.inl ⟨rfl,rfl⟩⟩⟩
 ·refine ⟨.slice (some ⟨g,o,none⟩) j.toNat cap,⟨_,_,_,rfl,by simp,by simpa using e,by simp;omega,?_⟩,rfl,fun f i d=>⟨c f i d,.inr ?_⟩⟩
  ·simp [Zj]
  ·rcases d.2 with ⟨a,_⟩ | ⟨Tg,z,A,k,a,l,k1,m,p,q⟩
   ·simp at a
   ·simp at a;obtain ⟨⟨rfl,rfl⟩,rfl⟩:=a;exact ⟨g,o,cap,k,rfl,l,by omega,m,p,by rw [← q,List.take_take,Nat.min_eq_left (Nat.mul_le_mul_right _ (by omega))]⟩
theorem Row.cutFrom {v:Value}{sz:Nat}{xs:List Value}{i:Int}(h:Row w v T sz n xs) (j:0≤i) (fb:i≤n) :
  ∃ b,Wn v sz (some i) none b∧b.ownBlock=v.ownBlock∧∀ w T,Row w v T sz n xs→Row w b T sz (n - i.toNat) (xs.drop (i.toNat*sz)):=by
 have d:∀ w T,Row w v T sz n xs→(xs.drop (i.toNat*sz)).length=(n - i.toNat)*sz:=fun w T h=>by
  rw [List.length_drop,h.1,Nat.sub_mul]
 rcases h.2 with ⟨rfl,rfl⟩ | ⟨g,o,cap,cur,rfl,p,q,r,s,t⟩
 ·have:i=0:=by omega
  subst this;exact ⟨.slice none 0 0,⟨none,0,0,rfl,by simp,by simp,by simp,by simp⟩,rfl,fun w T h=>⟨d w T h,.inl ⟨rfl,by simp⟩⟩⟩
 ·refine ⟨_,⟨_,_,_,rfl,by simpa using j,by simpa using fb,by simp;omega,rfl⟩,by simp only [Option.getD_some];split<;>simp [Value.ownBlock,Zj],fun k l c=>⟨d k l c,.inr ?_⟩⟩;rcases c.2 with ⟨a,_⟩ | ⟨Tg,u,x,e,a,f,k1,y,z,m⟩
  ·simp at a
  ·simp at a;obtain ⟨⟨rfl,rfl⟩,rfl⟩:=a;have hmul:i.toNat*sz+(cap - i.toNat)*sz=cap*sz:=by rw [← Nat.add_mul];congr 1;omega
   by_cases hc:cap=i.toNat
   ·refine ⟨g,o,cap - i.toNat,e,by simp [hc],f,by omega,by omega,by omega,?_⟩;rw [show n - i.toNat=0 by omega,Nat.zero_mul,List.take_zero,List.drop_eq_nil_of_le (by rw [c.1];exact Nat.mul_le_mul_right _ (by omega))]
   ·refine ⟨g,o+i.toNat*sz,cap - i.toNat,e,by simp [hc,Zj],f,by omega,by omega,by omega,?_⟩;rw [← m,← List.drop_drop,List.drop_take,Nat.sub_mul]
theorem ma.drop {α:Type}[Ua α]:∀ {l:List α}{cells:List Value}(i:Nat),ma μ cells l→ma μ (cells.drop (i*Ua.sz α)) (l.drop i)
 | [],cells,i,h=>by rw [ma] at h; subst h; simp [ma]
 | x::l,cells,0,h=>by simpa using h
 | x::l,cells,i+1,h=>by
  rw [ma] at h;obtain ⟨cs,t,rfl,a,b⟩:=h;have e:(i+1)*Ua.sz α=cs.length+i*Ua.sz α:=by rw [Nat.add_mul,Ua.qh a];omega
  rw [e,← List.drop_drop];simpa using ma.drop i b
theorem Row.mC {α:Type}[Ua α]{v:Value}{cells:List Value}{l b:List α}{i:Int}(h:Row w v T (Ua.sz α) l.length cells) (hm:ma μ cells l) (g:cut l i l.length=some b) :
  ∃ a c,Wn v (Ua.sz α) (some i) none a∧a.ownBlock=v.ownBlock∧(∀ w T,Row w v T (Ua.sz α) l.length cells→Row w a T (Ua.sz α) b.length c)∧ma μ c b:=by
 obtain ⟨⟨d,e,m⟩,rfl⟩:=aq g;obtain ⟨a,qa,f,j⟩:=Row.cutFrom h d e;refine ⟨a,cells.drop (i.toNat*Ua.sz α),qa,f,fun w T k=>?_,by simpa using hm.drop i.toNat⟩;have:=j w T k;simpa using this
theorem Row.nC {v:Value}{ms:List (Nat×List MapEntry×Nat)}{a c:List (List (κ×β))}{j:Int}(h:Row w v T 1 a.length (td ms)) (hm:Xd μ ms a) (g:cut a 0 j=some c) :
  ∃ b d,Wn v 1 none (some j) b∧b.ownBlock=v.ownBlock∧(∀ w T,Row w v T 1 a.length (td ms)→Row w b T 1 c.length (td d))∧Xd μ d c∧ms.take j.toNat=d:=by
 obtain ⟨⟨m,e,f⟩,rfl⟩:=aq g;obtain ⟨b,qa,i,k⟩:=Row.dC h e f;refine ⟨b,ms.take j.toNat,qa,i,fun w T l=>?_,by simpa using hm.take j.toNat,rfl⟩;have:=k w T l;have el:((a.take j.toNat).drop (0:Int).toNat).length=j.toNat:=by simp;omega
 rw [el];have xa:td (ms.take j.toNat)=(td ms).take (j.toNat*1):=by simp [td]
 rw [xa];exact this
theorem _root_.Go.vc.Sep.perm {S Qd:Nat→Prop}{A:World→Prop}(h:Sep S Qd w0 w rs A) (a:rs.Perm rs'):Sep S Qd w0 w rs' A where
 keeps:=h.keeps
 all r d:=h.all r (a.mem_iff.2 d)
 ki:=(a.filterMap _).nodup_iff.1 h.ki
 new b e:=h.new b ((a.filterMap _).mem_iff.2 e)
 Di:=h.Di.mono fun k _ c=>⟨c.1,fun hm=>c.2 ((a.filterMap Fb.block).mem_iff.2 hm)⟩
theorem _root_.Go.vc.Sep.yc {a p M R:List Fb}(h:la μ w0 w (a++(p++(M++R)))):la μ w0 w (a++(M++(p++R))):=
 h.perm (List.Perm.append_left a (by
  rw [← List.append_assoc,← List.append_assoc];exact List.Perm.append_right R List.perm_append_comm))
theorem _root_.Go.vc.Sep.Ko {k:Nat}{v c:Value}{sz d:Nat}{xs e:List Value}{S Qd:Nat→Prop}{A:World→Prop}(a:Sep S Qd w0 w rs A) (f:zc rs k (.row v T sz n xs)) (l:c.ownBlock=v.ownBlock) (m:∀ w T,Row w v T sz n xs→Row w c T sz d e) (g:tc rs k (.row c T sz d e) rs'):Sep S Qd w0 w rs' A:=by
 have h:Row w v T sz n xs:=a.get f;cases o:v.ownBlock with
 | some b=>exact a.put (b:=b) (r:=.row v T sz n xs) (r':=.row c T sz d e) f o (l.trans o) g (m _ _ h) (di.refl _)
 | none =>
  unfold tc at g;subst g;have j:=Xz (r':=.row c T sz d e) f (show c.ownBlock=v.ownBlock from l);refine ⟨a.keeps,fun r p=>?_,by rw [j];exact a.ki,by rw [j];exact a.new,by rw [j];exact a.Di⟩;obtain ⟨i,fb⟩:=List.mem_iff_getElem?.1 p;rw [List.getElem?_set] at fb;split at fb
  ·split at fb
   ·cases fb;exact m _ _ h
   ·cases fb
  ·exact a.all r (List.mem_of_getElem? fb)
end
end Go.hd
namespace Go.hd
open Go.vc Go.RowKit
theorem Yb {P : Program} {f : FuncId} {fn : Func} (a : P.funcs[f]? = some fn) (b : fn.body.isSome = true := by rfl) (c : (fn.name == "runtime.NumGoroutine") = false := by kernel_rfl) : Lb P f := AF a b c
theorem oe {P : Program}{T : TypeId}{d : TypeDesc}{Ef : Bool}{z : Value}{Hd : List Value}{n m : Nat}(hu : P.underlying T = some d) (a : lv d = Ef := by rfl) (h : (P.info? T).map (fun i => (i.zero, i.size, i.bytes)) = some (some z, n, m):= by kernel_rfl) (b : z.cells = ⟨Hd⟩ := by rfl) : Mc P T Ef Hd n m := XH hu a h b
end Go.hd
namespace Go.hd
open Go.vc Go.RowKit
theorem gh {v:Value}{l:List Value}(h:Md v=true) (k:l.all Md=true):(v::l).all Md=true:=by simp [h,k]
theorem Vl:([]:List Value).all Md=true:=rfl
theorem Jz (A vs:List Value) (o q N:Nat) (c:q+vs.length≤N) (d:o+N≤A.length):((A.take (o+q)++vs++A.drop (o+q+vs.length)).drop o).take N=((A.drop o).take N).take q++vs++((A.drop o).take N).drop (q+vs.length):=by
 apply List.ext_getElem?;intro j;simp only [List.getElem?_take,List.getElem?_drop,List.getElem?_append,List.length_append,List.length_take,List.length_drop];have qa:min (o+q) A.length=o+q:=by omega
 have a:min q (min N (A.length - o))=q:=by omega
 rw [qa,a];by_cases b:j<q
 ·have c2:j<N:=by omega
  have c3:j<q+vs.length:=by omega
  simp [b,c2,c3,show o+j<o+q by omega,show o+j<o+q+vs.length by omega]
 ·by_cases c2:j<q+vs.length
  ·rw [if_pos (by omega),if_pos (by omega),if_neg (by omega),if_pos (by omega),if_neg (by omega)];congr 1;omega
  ·by_cases c3:j<N
   ·rw [if_pos c3,if_neg (by omega),if_neg (by omega),if_pos (by omega)];congr 1;omega
   ·rw [if_neg c3,if_neg (by omega),if_neg (by omega)]
section
variable {P:Program}{Q:Exit→Act→World→Prop}{K:List Value→List Deferred→World→Prop}{fr V:List Value}{ds:List Deferred}{w:World}
variable {dst:Option Tmp}{ty:TypeId}{pos:String}{after:Array Edge}{g:Option (Nat×Bool)}
variable {w0:World}{rs rs':List Fb}{μ I:M}
variable {T:TypeId}{d:TypeDesc}{Ef:Bool}{Hd:List Value}{n m:Nat}
theorem Il {x y:Operand}{b o off sz len k:Nat}{i:Int}{v e:Value}{vs xs j:List Value}{a:TypeId}{S Qd:Nat→Prop}{A:World→Prop}(t:Mc P T Ef Hd n m) (u:pb fr x (.pointer (some ⟨b,o+off,none⟩))) (z:pb fr y e) (f:e.cells=⟨vs⟩) (B:vs.length=n) (C:vs.all Md=true)
  (l:Sep S Qd w0 w rs A) (p:zc rs k (.row v a sz len xs)) (he:Lj v sz i b o) (Y:off+vs.length≤sz) (D:xs.take (i.toNat*sz+off)++vs++xs.drop (i.toNat*sz+off+vs.length)=j) (F:tc rs k (.row v a sz len j) rs')
  (sb:tf fr dst undef V) (h:∀ w',Sep S Qd w0 w' rs' A→K V ds w'):Nd P (Oper.mk dst (.store T x y) ty pos after g) fr ds w K Q:=by
 have G:Row w v a sz len xs:=l.get p;obtain ⟨c,Z,c0,rfl,gc,hc,rfl⟩:=he.out;obtain ⟨hlen,d⟩:=G;rcases d with ⟨d,-⟩ | ⟨Tg,lc,cap,cur,d,H,q,M,rc,N⟩
 ·cases d
 ·cases d;have fb:i.toNat<len:=by omega
  have hmul:(i.toNat+1)*sz≤len*sz:=Nat.mul_le_mul_right _ fb;have fd:len*sz≤c0*sz:=Nat.mul_le_mul_right _ q;have id:(i.toNat+1)*sz=i.toNat*sz+sz:=Nat.succ_mul ..;have r:cj w b a cur.toList:=H;have hle:(c+i.toNat*sz+off)+0+vs.length≤(⟨cur.toList⟩:Array Value).size:=by simp;omega
  have s:=run_storeCells_at P b (c+i.toNat*sz+off) a vs 0 ⟨cur.toList⟩ w r hle fun v f=>eu (List.all_eq_true.1 C v f);have qa:e.cells.toList=vs:=by rw [f]
  have R:¬ (e.cells.size≠n):=by rw [f];simpa using B
  have U:=t.sizeOf (w:=w);simp only [Nat.add_zero] at s;have W:di (fun k=>k≠b) w (w.setRow b (cur.toList.take (c+i.toNat*sz+off)++vs++cur.toList.drop (c+i.toNat*sz+off+vs.length)).toArray):=⟨rfl,rfl,rfl,by simp [World.setRow],fun k md X=>setRow_other w b k _ X⟩;refine Qy ?_ sb (h _ (l.put (b:=b) p rfl rfl F ?_ W))
  ·simp only [execOp,Instr.storeAt,u ds,z ds,Instr.sureAddr,storeVar,Sem.run_bind,U,Result.andThen_ok,if_neg R,qa,s,Sem.run_pure]
  ·subst D;refine ⟨by simp [hlen];omega,.inr ⟨b,c,c0,_,rfl,setRow_heap w b ⟨cur.toList⟩ _ a (0,0) r,q,M,?_,?_⟩⟩
   ·simp;omega
   ·subst N;have:=Jz cur.toList vs c (i.toNat*sz+off) (len*sz) (by omega) (by simp;omega);rw [← Nat.add_assoc] at this;exact this
class YI (α β:Type) [Ua α] [Ua β] where
 code:α→List β
 set:α→List β→α
 sb:M→List Value→α→Prop
 up:∀ {μ I:M}{l:List Value}{x:α},ga μ I→sb μ l x→sb I l x
 qh:∀ {μ:M}{l:List Value}{x:α},sb μ l x→l.length+1=Ua.sz α
 wr:∀ {μ:M}{l:List Value}{x:α}{ys:List β}{a:Option Addr}{c:Nat},sb μ l x→wa μ a c ys→Ua.cs μ (l++[.slice a ys.length c]) (set x ys)
 st:∀ {μ:M}{l:List Value}{x:α}{ys:List β},sb μ l x→sb μ l (set x ys)
 Hj:∀ {x:α},set x (code x)=x
 cs:∀ {x:α}{ys:List β},code (set x ys)=ys
variable {α β:Type}[Ua α] [Ua β] [YI α β]
end
end Go.hd
namespace Go.vc
open Go.RowKit
section
variable {P:Program}{Q:Exit→Act→World→Prop}{ops:Array Oper}{fr V:List Value}{ds:List Deferred}{w:World}
end
end Go.vc
namespace Go.vc
open Go.RowKit
section
variable {P:Program}{Q:Exit→Act→World→Prop}{ops:Array Oper}{fr V:List Value}{ds:List Deferred}{w:World}
abbrev Mon:=List Nat×(World→Prop)
def Sh (i:Nat) (Rc:List Mon):List Mon:=Rc.filter fun m=>!m.1.contains i
def ob:List Mon→World→Prop
 | [],_=>True
 | m::l,w=>m.2 w∧ob l w
theorem ob.mem {Rc:List Mon}{w:World}:ob Rc w ↔ ∀ m ∈ Rc,m.2 w:=by
 induction Rc with
 | nil=>simp [ob]
 | cons m l a=>simp [ob,a]
theorem ob.sub {Rc Ns':List Mon}(h:ob Rc w) (a:∀ m ∈ Ns',m ∈ Rc):ob Ns' w:=ob.mem.2 fun m hm=>ob.mem.1 h m (a m hm)
theorem Bu {i:Nat}{Rc:List Mon}:∀ m ∈ Sh i Rc,m ∈ Rc:=fun m hm=>(List.mem_filter.1 hm).1
theorem ju {i:Nat}{Rc Ns':List Mon}(h:∀ m ∈ Ns',m ∈ Rc):∀ m ∈ Sh i Ns',m ∈ Sh i Rc:=fun m hm=>List.mem_filter.2 ⟨h m (List.mem_filter.1 hm).1,(List.mem_filter.1 hm).2⟩
def Ug (P:Program) (ops:Array Oper) (Q:Exit→Act→World→Prop):List Mon→List Nat→Act→World→Prop
 | _,[],a,w=>Q .normal a w
 | Rc,i::rest,a,w =>
  match ops[i]? with
  | none=>Ug P ops Q (Sh i Rc) rest a w
  | some o =>
   if Region.wanted o (yielded ops a.tmps) then o.wp P a w (fun a w=>ob (Sh i Rc) w∧Ug P ops Q (Sh i Rc) rest a w) Q∨(o.asks P a w∧LetsOut Q)
   else Ug P ops Q (Sh i Rc) rest (a.put o.dst undef) w
theorem ay {o:Oper}{a:Act}{K c:Act→World→Prop}(h:o.wp P a w K Q) (b:∀ a w,K a w→c a w):o.wp P a w c Q:=by
 unfold Oper.wp at h ⊢;cases d:(execOp a.eval o).run P w with
 | halt e w'=>rw [d] at h; cases e <;> exact h
 | ok r w' =>
  rw [d] at h;cases r with
  | value x=>exact b _ _ h
  | skip=>exact b _ _ h
  | defer i=>exact b _ _ h
  | enter f args =>
   rw [Oper.upon_enter] at h ⊢;refine Calls.mono h fun e g he=>?_;cases e with
   | returned x=>exact b _ _ he
   | panicked j=>exact he
   | outgrown=>exact he
  | row r args =>
   rw [Oper.upon_row] at h ⊢;exact Rows.mono h fun x g he=>b _ _ he
  | _=>exact h
theorem Ug.mono:∀ (b:List Nat){Rc Ns':List Mon}{a:Act}{w:World},Ug P ops Q Rc b a w→(∀ m ∈ Ns',m ∈ Rc)→Ug P ops Q Ns' b a w
 | [],_,_,_,_,h,_=>h
 | i::b,Rc,Ns',a,w,h,c=>by
  simp only [Ug] at h ⊢;cases d:ops[i]? with
  | none=>rw [d] at h; exact Ug.mono b h (ju c)
  | some o =>
   rw [d] at h;simp only at h ⊢;split
   ·rename_i hw;rw [if_pos hw] at h;rcases h with h | h
    ·exact .inl (ay h fun a w ⟨e,f⟩=>⟨e.sub (ju c),Ug.mono b f (ju c)⟩)
    ·exact .inr h
   ·rename_i hw;rw [if_neg hw] at h;exact Ug.mono b h (ju c)
theorem Ug.plain:∀ (b:List Nat){Rc:List Mon}{a:Act}{w:World},Ug P ops Q Rc b a w→wpOps P ops Q b a w
 | [],_,_,_,h=>h
 | i::b,Rc,a,w,h=>by
  simp only [Ug] at h;simp only [wpOps];cases c:ops[i]? with
  | none=>rw [c] at h; exact Ug.plain b h
  | some o =>
   rw [c] at h;simp only at h ⊢;split
   ·rename_i hw;rw [if_pos hw] at h;rcases h with h | h
    ·exact .inl (ay h fun a w ⟨_,d⟩=>Ug.plain b d)
    ·exact .inr h
   ·rename_i hw;rw [if_neg hw] at h;exact Ug.plain b h
theorem Sy (q:vh Q){N:World→Prop}{S:List Nat}{i d:Nat}{o:Oper}{v:Value}(A:ops[i]?=some o) (sb:o.dst=some d){wt:Bool}(B:wt=false→v=undef) :
  ∀ (a b:List Nat) (fr:List Value) (ds:List Deferred) (w:World) (Rc:List Mon),
   (∀ j ∈ a,j ∉ S∧match ops[j]? with
    | some p=>zj p.op=true∧(reads ops p).contains d=false∧p.dst≠some d∧(∀ e,p.dst=some e→(reads ops o).contains e=false)
    | none=>True) →
   N w→ob Rc w→zj o.op=true→Region.wanted o (yielded ops (F fr ds).tmps)=wt →
   (wt=true→∀ ds w,N w→(execOp (F fr ds).eval o).run P w=.ok (.value v) w) →
   Ug P ops Q ((S,N)::Rc) (a++b) (F (fr.set d v) ds) w→Ug P ops Q Rc (a++i::b) (F fr ds) w
 | [],b,fr,ds,w,Rc,_,hw,s,t,c,u,h=>by
  simp only [List.nil_append] at h ⊢;have h:=Ug.mono b h (Ns':=Sh i Rc) fun m hm=>List.mem_cons_of_mem _ (Bu m hm);simp only [Ug,A];cases wt with
  | true =>
   rw [if_pos c];left;unfold Oper.wp;rw [u rfl ds w hw,Oper.upon_value,sb];rw [show (F fr ds).put (some d) v=F (fr.set d v) ds from ha rfl ds];exact ⟨s.sub Bu,h⟩
  | false =>
   rw [if_neg (by rw [c];simp),sb,← B rfl];rw [show (F fr ds).put (some d) v=F (fr.set d v) ds from ha rfl ds];exact h
 | j::a,b,fr,ds,w,Rc,K,hw,s,t,c,u,h=>by
  obtain ⟨Y,C⟩:=K j (by simp);have M:∀ k ∈ a,_:=fun k l=>K k (by simp [l]);have Z:Sh j ((S,N)::Rc)=(S,N)::Sh j Rc:=by simp [Sh,Y]
  simp only [List.cons_append,Ug,Z] at h ⊢;cases R:ops[j]? with
  | none =>
   rw [R] at h;simp only at h ⊢;exact Sy q A sb B a b fr ds w _ M hw (s.sub Bu) t c u h
  | some p =>
   rw [R] at h C;simp only at h C ⊢;obtain ⟨T,D,gc,U⟩:=C;rw [vw (fr:=fr) (v:=v) (ds:=ds) (ds':=ds) D] at h;have key:∀ (x:Value) (w':World) (ds':List Deferred),N w'→ob (Sh j Rc) w'→Ug P ops Q ((S,N)::Sh j Rc) (a++b) ((F (fr.set d v) ds').put p.dst x) w'→Ug P ops Q (Sh j Rc) (a++i::b) ((F fr ds').put p.dst x) w':=by
    intro x w' ds' hc lc l;obtain ⟨g,g1,g2,g3⟩:=put_eq fr ds' p.dst x;have rc:=wanted_put (ops:=ops) (o:=o) (p:=p) (ds':=ds') (fun y G=>g3 fr y ds' ds' G) U;rw [g1] at l ⊢;rw [g2 _ _ _ gc] at l;refine Sy q A sb B a b (g fr) ds' w' _ M hc lc t (rc.trans c) (fun fd n id md=>?_) l;rw [show execOp (F (g fr) n).eval o=execOp (F fr n).eval o from execOp_congr o t fun y G=>g3 fr y n n fun e he rd=>by
     exact gu (U e he) y G rd]
    exact u fd n id md
   by_cases W:Region.wanted p (yielded ops (F fr ds).tmps)=true
   ·rw [if_pos W] at h ⊢;rcases h with h | h
    ·left;unfold Oper.wp at h ⊢;rw [Gp (ds':=ds) T D] at h;cases X:(execOp (F fr ds).eval p).run P w with
     | halt e w' =>
      rw [X] at h;cases e<;>first | exact h | exact q _ (F (fr.set d v) ds) _ w' rfl h
     | ok r w' =>
      rw [X] at h;cases r with
      | value x=>exact ⟨h.1.2,key x w' ds h.1.1 h.1.2 h.2⟩
      | skip=>exact ⟨h.1.2,key undef w' ds h.1.1 h.1.2 h.2⟩
      | defer wd=>exact ⟨h.1.2,key undef w' (wd::ds) h.1.1 h.1.2 h.2⟩
      | enter f args =>
       rw [Oper.upon_enter] at h ⊢;refine Calls.mono h fun e z he=>?_;cases e with
       | returned x=>exact ⟨he.1.2,key x z ds he.1.1 he.1.2 he.2⟩
       | panicked Fd=>exact q Fd (F (fr.set d v) ds) _ z rfl he
       | outgrown=>exact he
      | row r args =>
       rw [Oper.upon_row] at h ⊢;exact Rows.mono h fun x z he=>⟨he.1.2,key x z ds he.1.1 he.1.2 he.2⟩
      | _=>exact h
    ·right;refine ⟨?_,h.2⟩;have H:=h.1;unfold Oper.asks at H ⊢;rw [Gp (ds':=ds) T D] at H;exact H
   ·rw [if_neg W] at h ⊢;exact key undef w ds hw (s.sub Bu) h
structure yg (P:Program) (ops:Array Oper) (Q:Exit→Act→World→Prop) (Rc:List Mon) (R:List Nat) (fr:List Value) (ds:List Deferred) (w:World):Prop where
 out:ob Rc w→∀ a,dk ops R a→Ug P ops Q Rc a (F fr ds) w
theorem mf {R:List Nat}(h:yg P ops Q [] R fr ds w):uf P ops Q R fr ds w:=⟨fun a b=>Ug.plain a (h.out trivial a b)⟩
theorem Ve {Rc:List Mon}(h:Q .normal (F fr ds) w):yg P ops Q Rc [] fr ds w:=⟨fun _ b a=>by
 cases a with
 | z=>exact h
 | s h _=>exact absurd (Yk h) (by simp)⟩
def sk (ops:Array Oper) (S R:List Nat) (i:Nat):Bool :=
 match ops[i]? with
 | some o=>match o.dst with
  | some d=>zj o.op && R.all fun j=>S.contains j || (match ops[j]? with
    | some p=>zj p.op && !(reads ops p).contains d && p.dst != some d && (match p.dst with | some e=>!(reads ops o).contains e | none=>true)
    | none=>true)
  | _=>false
 | none=>false
theorem Yq {Rc:List Mon}{R Pd:List Nat}{i:Nat}(S:List Nat) (N:World→Prop){wt:Bool}{dst:Tmp}{op:Op}{ty:TypeId}{pos:String}{after:Array Edge}{l:Option (Nat×Bool)}{v:Value}(C:vh Q) (m:(decide R.Nodup && enabled ops R i && waits ops R S i && sk ops S R i && S.contains i)=true) (D:R.erase i=Pd) (n:ops[i]?=some ⟨some dst,op,ty,pos,after,l⟩)
  (G:Region.wanted ⟨some dst,op,ty,pos,after,l⟩ (yielded ops (F fr ds).tmps)=wt) (H:wt=false→v=undef) (o:N w)
  (K:wt=true→∀ ds w',N w'→(execOp (F fr ds).eval ⟨some dst,op,ty,pos,after,l⟩).run P w'=.ok (.value v) w') (f:tc fr dst v V) (h:yg P ops Q ((S,N)::Rc) Pd V ds w):yg P ops Q Rc R fr ds w:=⟨fun q Z r=>by
 simp only [Bool.and_eq_true,decide_eq_true_eq] at m;obtain ⟨⟨⟨⟨s,t⟩,u⟩,g⟩,-⟩:=m;obtain ⟨x,y,rfl,M,z⟩:=r.split s (Yk t) t;have A:=dk.later (S:=S) r s (fun j d=>by
  unfold waits at u;have:=List.all_eq_true.1 u j d;simp only [Bool.or_eq_true,beq_iff_eq,List.any_eq_true,Bool.and_eq_true,List.contains_iff_mem] at this;rcases this with h | ⟨k,k1,T,U⟩
  ·exact .inl h
  ·exact .inr ⟨k,k1,T,U⟩) x y rfl (fun hm=>(z i hm).2.1 rfl)
 unfold sk at g;simp only [n,Bool.and_eq_true,List.all_eq_true,Bool.or_eq_true,List.contains_iff_mem] at g;unfold tc at f;subst f;subst D;refine Sy C n rfl H (N:=N) (S:=S) (v:=v) x y fr ds w Rc (fun j d=>⟨A j d,?_⟩) o q g.1 G K (h.out ⟨o,q⟩ _ M);obtain ⟨a,b,c⟩:=z j d;have:=g.2 j a;rcases this with h | h
 ·exact absurd h (A j d)
 ·cases f:ops[j]? with
  | none=>trivial
  | some p =>
   rw [f] at h;simp only [Bool.and_eq_true,Bool.not_eq_true',bne_iff_ne,ne_eq] at h;obtain ⟨⟨⟨W,X⟩,Y⟩,B⟩:=h;refine ⟨W,X,Y,fun e he=>?_⟩;rw [he] at B;simpa using B⟩
theorem il {Rc:List Mon}{R Pd:List Nat}{i:Nat}(S:List Nat){dst:Tmp}{op:Op}{ty:TypeId}{pos:String}{after:Array Edge}{v:Value}(a:vh Q) (b:(decide R.Nodup && enabled ops R i && waits ops R S i && sk ops S R i && S.contains i)=true) (c:R.erase i=Pd) (d:ops[i]?=some ⟨some dst,op,ty,pos,after,none⟩)
  (e:Yj P ⟨some dst,op,ty,pos,after,none⟩ fr w v) (f:tc fr dst v V) (h:yg P ops Q ((S,fun w'=>Yj P ⟨some dst,op,ty,pos,after,none⟩ fr w' v)::Rc) Pd V ds w):yg P ops Q Rc R fr ds w :=
 Yq S _ (wt:=true) a b c d (ib rfl) (fun h=>by cases h) e (fun _ ds w' hw=>hw.out ds) f h
theorem OG {Rc:List Mon}{R Pd:List Nat}{i j d:Nat}{b:Bool}(S:List Nat){dst:Tmp}{op:Op}{ty:TypeId}{pos:String}{after:Array Edge}{v:Value}(a:vh Q) (c:(decide R.Nodup && enabled ops R i && waits ops R S i && sk ops S R i && S.contains i)=true) (e:R.erase i=Pd) (f:ops[i]?=some ⟨some dst,op,ty,pos,after,some (j,b)⟩) (g:(ops[j]?).bind (·.dst)=some d) (k:zc fr d (.bool b))
  (l:Yj P ⟨some dst,op,ty,pos,after,some (j,b)⟩ fr w v) (m:tc fr dst v V) (h:yg P ops Q ((S,fun w'=>Yj P ⟨some dst,op,ty,pos,after,some (j,b)⟩ fr w' v)::Rc) Pd V ds w):yg P ops Q Rc R fr ds w :=
 Yq S _ (wt:=true) a c e f (Ip rfl g k) (fun h=>by cases h) l (fun _ ds w' hw=>hw.out ds) m h
theorem Ug.add {m:Mon}(c:∀ w,m.2 w):∀ (b:List Nat){Rc:List Mon}{a:Act}{w:World},Ug P ops Q Rc b a w→Ug P ops Q (m::Rc) b a w
 | [],_,_,_,h=>h
 | i::b,Rc,a,w,h=>by
  have d:Sh i (m::Rc)=m::Sh i Rc∨Sh i (m::Rc)=Sh i Rc:=by
   unfold Sh;rw [List.filter_cons];split
   ·exact .inl rfl
   ·exact .inr rfl
  have key:∀ {a w},Ug P ops Q (Sh i Rc) b a w→Ug P ops Q (Sh i (m::Rc)) b a w:=fun h=>by
   rcases d with e | e<;>rw [e]
   ·exact Ug.add c b h
   ·exact h
  have g:∀ {w},ob (Sh i Rc) w→ob (Sh i (m::Rc)) w:=fun h=>by
   rcases d with e | e<;>rw [e]
   ·exact ⟨c _,h⟩
   ·exact h
  simp only [Ug] at h ⊢;cases f:ops[i]? with
  | none=>rw [f] at h; exact key h
  | some o =>
   rw [f] at h;simp only at h ⊢;split
   ·rename_i hw;rw [if_pos hw] at h;rcases h with h | h
    ·exact .inl (ay h fun a w ⟨j,k⟩=>⟨g j,key k⟩)
    ·exact .inr h
   ·rename_i hw;rw [if_neg hw] at h;exact key h
theorem cy {Rc:List Mon}{m:Mon}{R:List Nat}(b:∀ w,m.2 w) (h:yg P ops Q Rc R fr ds w):yg P ops Q (m::Rc) R fr ds w:=⟨fun c a d=>Ug.add b a (h.out c.2 a d)⟩
theorem Kh {Rc:List Mon}{R Pd:List Nat}{i:Nat}(S:List Nat){dst:Tmp}{op:Op}{ty:TypeId}{pos:String}{after:Array Edge}{v:Value}(a:vh Q) (b:(decide R.Nodup && enabled ops R i && waits ops R S i && sk ops S R i && S.contains i)=true) (c:R.erase i=Pd) (d:ops[i]?=some ⟨some dst,op,ty,pos,after,none⟩)
  (e:cf P ⟨some dst,op,ty,pos,after,none⟩ fr v) (f:tc fr dst v V) (h:yg P ops Q Rc Pd V ds w):yg P ops Q Rc R fr ds w :=
 Yq S (fun _=>True) (wt:=true) a b c d (ib rfl) (fun h=>by cases h) trivial (fun _ ds w' _=>e.out ds w') f (cy (fun _=>trivial) h)
theorem PG {Rc:List Mon}{R Pd:List Nat}{i j d:Nat}{b:Bool}(S:List Nat){dst:Tmp}{op:Op}{ty:TypeId}{pos:String}{after:Array Edge}{v:Value}(a:vh Q) (c:(decide R.Nodup && enabled ops R i && waits ops R S i && sk ops S R i && S.contains i)=true) (e:R.erase i=Pd) (f:ops[i]?=some ⟨some dst,op,ty,pos,after,some (j,b)⟩) (g:(ops[j]?).bind (·.dst)=some d) (k:zc fr d (.bool b))
  (l:cf P ⟨some dst,op,ty,pos,after,some (j,b)⟩ fr v) (m:tc fr dst v V) (h:yg P ops Q Rc Pd V ds w):yg P ops Q Rc R fr ds w :=
 Yq S (fun _=>True) (wt:=true) a c e f (Ip rfl g k) (fun h=>by cases h) trivial (fun _ ds w' _=>l.out ds w') m (cy (fun _=>trivial) h)
theorem QG {Rc:List Mon}{R Pd:List Nat}{i j d:Nat}{b b':Bool}(S:List Nat){dst:Tmp}{op:Op}{ty:TypeId}{pos:String}{after:Array Edge}(a:vh Q) (c:(decide R.Nodup && enabled ops R i && waits ops R S i && sk ops S R i && S.contains i)=true) (e:R.erase i=Pd) (f:ops[i]?=some ⟨some dst,op,ty,pos,after,some (j,b)⟩) (g:(ops[j]?).bind (·.dst)=some d) (k:zc fr d (.bool b')) (l:(b' == b)=false)
  (m:tc fr dst undef V) (h:yg P ops Q Rc Pd V ds w):yg P ops Q Rc R fr ds w :=
 Yq S (fun _=>True) (wt:=false) a c e f ((iu rfl g k).trans l) (fun _=>rfl) trivial (fun h=>by cases h) m (cy (fun _=>trivial) h)
structure Dv (P:Program) (ops:Array Oper) (Q:Exit→Act→World→Prop) (Rc:List Mon) (R:List Nat) (fr:List Value) (ds:List Deferred) (w:World):Prop where
 m:ob Rc w
 s:yg P ops Q Rc R fr ds w
theorem ob.s {m:Mon}{l:List Mon}(h:m.2 w) (k:ob l w):ob (m::l) w:=⟨h,k⟩
theorem ob.z:ob [] w:=trivial
theorem IB {Rc:List Mon}{R:List Nat}(c:R≠[]) (h:∀ i ∈ Io ops R,∃ o,ops[i]?=some o∧Region.wanted o (yielded ops (F fr ds).tmps)=true∧Nd P o fr ds w (Dv P ops Q (Sh i Rc) (R.erase i)) Q):yg P ops Q Rc R fr ds w:=⟨fun j d e=>by
 cases e with
 | z=>exact absurd rfl c
 | @s _ d i b f =>
  obtain ⟨o,g,hw,fb⟩:=h i (List.mem_filter.2 ⟨Yk b,b⟩);simp only [Ug,g];rw [if_pos hw];exact .inl (fb.out _ fun V ds' w' a=>⟨a.m,a.s.out a.m _ f⟩)⟩
theorem gd {Rc Ns':List Mon}{R:List Nat}{i:Nat}{Pd:List Nat}{o:Oper}(b:Io ops R=[i]) (c:R.erase i=Pd) (sb:Sh i Rc=Ns') (d:ops[i]?=some o) (hw:Region.wanted o (yielded ops (F fr ds).tmps)=true)
  (h:Nd P o fr ds w (Dv P ops Q Ns' Pd) Q):yg P ops Q Rc R fr ds w :=
 IB (by intro e;subst e;cases b) fun k a=>by
  rw [b] at a;simp at a;subst a;exact ⟨_,d,hw,by rw [c,sb];exact h⟩
theorem sC {Rc d f:List Mon}{R:List Nat}{i j:Nat}{g h:List Nat}{a b:Oper}(l:Io ops R=[i,j]) (m:R.erase i=g) (n:R.erase j=h) (o:Sh i Rc=d) (p:Sh j Rc=f) (fb:ops[i]?=some a) (q:ops[j]?=some b) (r:Region.wanted a (yielded ops (F fr ds).tmps)=true) (s:Region.wanted b (yielded ops (F fr ds).tmps)=true)
  (t:Nd P a fr ds w (Dv P ops Q d g) Q) (u:Nd P b fr ds w (Dv P ops Q f h) Q):yg P ops Q Rc R fr ds w :=
 IB (by intro e;subst e;cases l) fun k c=>by
  rw [l] at c;simp at c;rcases c with rfl | rfl
  ·exact ⟨_,fb,r,by rw [m,o];exact t⟩
  ·exact ⟨_,q,s,by rw [n,p];exact u⟩
theorem UI {Rc:List Mon}{R:List Nat}{Wg Xg:List Value}{d:Nat}{b:Bool}(a:zc fr d (.bool b)) (c:tc fr d (.bool true) Wg) (e:tc fr d (.bool false) Xg)
  (f:b=true→yg P ops Q Rc R Wg ds w) (g:¬ b=true→yg P ops Q Rc R Xg ds w):yg P ops Q Rc R fr ds w:=by
 cases b with
 | true=>have:=f rfl; rw [tc.same a c] at this; exact this
 | false=>have:=g (by simp); rw [tc.same a e] at this; exact this
theorem Ty {Rc:List Mon}{R:List Nat}{Wg Xg:List Value}{d:Nat}{p:Prop}[Decidable p] (a:zc fr d (.bool (decide p))) (b:tc fr d (.bool true) Wg) (c:tc fr d (.bool false) Xg)
  (e:p→yg P ops Q Rc R Wg ds w) (f:¬ p→yg P ops Q Rc R Xg ds w):yg P ops Q Rc R fr ds w :=
 UI a b c (fun h=>e (of_decide_eq_true h)) (fun h=>f fun g=>h (decide_eq_true g))
end
end Go.vc
namespace Go.hd
open Go.vc Go.RowKit
section
variable {P:Program}{Q:Exit→Act→World→Prop}{K:List Value→List Deferred→World→Prop}{fr V:List Value}{ds:List Deferred}{w:World}
variable {dst:Option Tmp}{ty:TypeId}{pos:String}{after:Array Edge}{g:Option (Nat×Bool)}
variable {w0:World}{rs rs':List Fb}{μ I:M}
variable {T:TypeId}{d:TypeDesc}{Ef:Bool}{Hd:List Value}{n m:Nat}
theorem RG {e:TypeId}{S Qd:Nat→Prop}{A:World→Prop}(c:P.underlying T=some (.slice e)) (a:Mc P e Ef Hd n m) (d:Sep S Qd w0 w rs A)
  (h:∀ b w',w.heap.size≤b→Sep S Qd w0 w' (.ba b e []::rs) A→Qg fr dst (.slice (some ⟨b,0,none⟩) 0 0) fun V=>K V ds w'):Nd P (Oper.mk dst (.buildSlice T 0 ⟨[]⟩) ty pos after g) fr ds w K Q:=by
 obtain ⟨V,sb⟩:=Jh fr dst (.slice (some ⟨w.heap.size,0,none⟩) 0 0);refine bh (v:=.slice (some ⟨w.heap.size,0,none⟩) 0 0) (w':=w.alloc (.cells ⟨[]⟩ e)) ?_ sb (h _ _ (Nat.le_refl _) (d.alloc rfl (heap_alloc_new w _)) V sb);have f:=a.sizeOf (w:=w);obtain ⟨z,i,hc⟩:=a.zero (w:=w);simp [execOp,Instr.buildSlice,Sem.run_bind,run_underlying c,Result.andThen_ok,f,newRow,Instr.fill];have Qa:Array.range 0=#[]:=Array.eq_empty_of_size_eq_zero (by simp);rw [Qa,Array.map_empty]
theorem wz {t ty:TypeId}{sz bytes:Nat}(b:P.underlying t=some (.slice T)) (e:Mc P T Ef Hd sz bytes){v:Value}{xs:List Value}(f:Row w v T sz n xs){a:Option Addr}{c:Nat} :
  (Builtin.append_ #[t,t] ty #[v,.slice a 0 c]).run P w=.ok v w:=by
 have d:=e.sizeOf (w:=w);rcases f.2 with ⟨rfl,rfl⟩ | ⟨g,o,cap,cur,rfl,i,h,j,k,l⟩
 ·cases a<;>simp [Builtin.append_,run_underlying b,d,Builtin.lenOf,Builtin.firstCells,loadCells,loadCellsFrom]
 ·cases a<;>simp [Builtin.append_,run_underlying b,d,Builtin.lenOf,Builtin.firstCells,h,storeCells,loadCells,loadCellsFrom]
theorem Su {α:Type}[Ua α]{t:TypeId}{s x:Operand}{v:Value}{bytes k c:Nat}{a:Option Addr}{cells news:List Value}{l ys j:List α}(n:P.underlying t=some (.slice T)) (p:Mc P T Ef Hd (Ua.sz α) bytes) (z:Hd.length=Ua.sz α)
  (q:pb fr s v) (r:pb fr x (.slice a ys.length c)) (f:la μ w0 w rs) (m:zc rs k (.row v T (Ua.sz α) l.length cells)) (A:ys≠[]→∃ b o,a=some ⟨b,o,none⟩∧uc μ b o news) (d:ma μ news ys) (B:app l ys=some j) (C:bytes≤4096)
  (h:∀ i w' rs',tc rs k (.row i T (Ua.sz α) j.length (cells++news)) rs'→la μ w0 w' rs'→Qg fr dst i fun V=>K V ds w') :
  Nd P (Oper.mk dst (.call { callee:=.builtin .append,args:=#[s,x],argTypes:=#[t,t] }) ty pos after g) fr ds w K Q:=by
 obtain ⟨u,D⟩:=zu B;by_cases y:ys=[]
 ·subst y;obtain rfl:news=[]:=d;have F:Row w v T (Ua.sz α) l.length cells:=f.get m;obtain ⟨V,sb⟩:=Jh fr dst v;have G:=h v w rs (by
   have:j.length=l.length:=by simpa using u
   rw [this,List.append_nil];unfold tc;obtain ⟨H,e⟩:=List.getElem?_eq_some_iff.1 (show rs[k]?=_ from m);rw [← e];exact List.set_getElem_self H) f
  refine bh (v:=v) (w':=w) ?_ sb (G V sb);have qa:=q ds;have M:=r ds;have d:=wz (P:=P) (ty:=ty) (a:=a) (c:=c) n p F;simp [execOp,resolve,invoke,builtin,qa,M,d]
 ·obtain ⟨b,o,rfl,N⟩:=A y;exact Xq n p (by simp [z,Ua.pos]) q r f m (N _ f.a) d.len d.Sg ⟨D,C⟩ fun i w' rs' R=>h i w' rs' (by rw [u];exact R)
end
end Go.hd
