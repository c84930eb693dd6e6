/- The shelf: texts of Xt. -/
import Derived.Test.YthdpoglpdpfnbaaGreatDoorCWk
import Derived.LoopN
import Derived.KernelRfl
set_option linter.unusedSimpArgs false
set_option linter.unusedVariables false
set_option linter.unusedSectionVars false
namespace Go.hd
open Go.wc Go.RowKit
abbrev M:=World→Prop
def ga (μ I:M):Prop:=∀ w,I w→μ w
theorem ga.r {μ:M}:ga μ μ:=fun _ h=>h
theorem ga.t {a b c:M}(h:ga a b) (k:ga b c):ga a c:=fun w x=>h w (k w x)
abbrev la (μ:M) (w0 w:World) (rs:List Fb):Prop:=Sep (fun _=>False) (fun _=>True) w0 w rs μ
def uc (μ:M) (b o:Nat) (cs:List Value):Prop:=∀ w,μ w→Yi w b o cs
theorem uc.up {μ I:M}{b o:Nat}{cs:List Value}(h:uc μ b o cs) (l:ga μ I):uc I b o cs:=fun w k=>h w (l w k)
class Ta (α:Type) where
 sz:Nat
 pos:0<sz
 cs:M→List Value→α→Prop
 nh:∀ {μ:M}{l:List Value}{x:α},cs μ l x→l.length=sz
 up:∀ {μ I:M}{l:List Value}{x:α},ga μ I→cs μ l x→cs I l x
 Rg:∀ {μ:M}{l:List Value}{x:α},cs μ l x→l.all Kd=true
structure Ec {α:Type}(sz:Nat) (R:List Value→α→Prop) (μ:M) (a:Option Addr) (c:Nat) (xs:List α):Prop where
 le:xs.length≤c
 cap:c≤maxLen
 el:xs=[]∨∃ b o,a=some ⟨b,o,none⟩∧∃ g:Nat→List Value,∀ i x,xs[i]?=some x→uc μ b (o+i*sz) (g i)∧R (g i) x
abbrev ua {α:Type}[Ta α] (μ:M) (a:Option Addr) (c:Nat) (xs:List α):Prop:=Ec (Ta.sz α) (Ta.cs μ) μ a c xs
theorem Ec.imp {α:Type}{sz:Nat}{R Nd:List Value→α→Prop}{μ I:M}{a:Option Addr}{c:Nat}{xs:List α}(h:Ec sz R μ a c xs) (l:ga μ I) (f:∀ (i:Nat) (cs:List Value) (x:α),xs[i]?=some x→R cs x→Nd cs x):Ec sz Nd I a c xs where
 le:=h.le
 cap:=h.cap
 el:=by
  rcases h.el with h | ⟨b,o,j,g,e⟩
  ·exact .inl h
  ·exact .inr ⟨b,o,j,g,fun i x d=>⟨(e i x d).1.up l,f i _ x d (e i x d).2⟩⟩
theorem ua.up {α:Type}[Ta α]{μ I:M}{a:Option Addr}{c:Nat}{xs:List α}(h:ua μ a c xs) (l:ga μ I):ua I a c xs:=Ec.imp h l fun _ _ _ _=>Ta.up l
theorem ua.nil {α:Type}[Ta α]{μ:M}{a:Option Addr}:ua (α:=α) μ a 0 []:=⟨by simp,by simp,.inl rfl⟩
theorem ua.len {α:Type}{sz:Nat}{R:List Value→α→Prop}{μ:M}{a:Option Addr}{c:Nat}{xs:List α}(h:Ec sz R μ a c xs):xs.length≤9223372036854775807:=Nat.le_trans h.le h.cap
instance:Ta Int where
 sz:=1
 pos:=by decide
 cs _ l x:=l=[.int .i64 x]
 nh h:=by rw [h];rfl
 up _ h:=h
 Rg h:=by rw [h];rfl
instance:Ta Bool where
 sz:=1
 pos:=by decide
 cs _ l x:=l=[.bool x]
 nh h:=by rw [h];rfl
 up _ h:=h
 Rg h:=by rw [h];rfl
instance {α:Type}[Ta α]:Ta (List α) where
 sz:=1
 pos:=by decide
 cs μ l xs:=∃ a c,l=[.slice a xs.length c]∧ua μ a c xs
 nh h:=by obtain ⟨a,c,rfl,-⟩:=h;rfl
 up l h:=by obtain ⟨a,c,b,d⟩:=h;exact ⟨a,c,b,d.up l⟩
 Rg h:=by obtain ⟨a,c,rfl,-⟩:=h;rfl
instance:Ta (List UInt8) where
 sz:=1
 pos:=by decide
 cs _ l x:=l=[S x]
 nh h:=by rw [h];rfl
 up _ h:=h
 Rg h:=by rw [h];rfl
def i64 (n:Int):Option Int:=if -9223372036854775808≤n∧n≤9223372036854775807 then some n else none
def Cg (n:Int):Int:=IntKind.i64.wrap n
def at_ {α:Type}(l:List α) (i:Int):Option α:=if 0≤i then l[i.toNat]? else none
def cut {α:Type}(l:List α) (i j:Int):Option (List α):=if 0≤i∧i≤j∧j≤l.length then some ((l.take j.toNat).drop i.toNat) else none
def cat (a b:List UInt8):Option (List UInt8):=if a.length+b.length≤9223372036854775807 then some (a++b) else none
def app {α:Type}(l:List α) (xs:List α):Option (List α):=if l.length+xs.length≤4294967296 then some (l++xs) else none
def quo (a b:Int):Option Int:=if b=0 then none else some (Cg (a.tdiv b))
theorem da {α β:Type}{o:Option α}{f:α→Option β}{r:β}(h:Option.bind o f=some r):∃ x,o=some x∧f x=some r:=Option.bind_eq_some_iff.1 h
theorem ve {α:Type}{c:Prop}[Decidable c]{x y:α}{r:α}(hc:c) (h:(if c then x else y)=r):x=r:=by rwa [if_pos hc] at h
theorem mb {α:Type}{c:Prop}[Decidable c]{x y:α}{r:α}(hc:¬ c) (h:(if c then x else y)=r):y=r:=by rwa [if_neg hc] at h
theorem zG {n x:Int}(h:i64 n=some x):x=n∧-9223372036854775808≤n∧n≤9223372036854775807:=by
 unfold i64 at h;split at h
 ·rename_i hc;exact ⟨(Option.some.inj h).symm,hc⟩
 ·cases h
theorem cx {n x:Int}(h:i64 n=some x):IntKind.i64.wrap n=x:=by
 obtain ⟨rfl,a,b⟩:=zG h;exact wr (by omega)
theorem ur {α:Type}{l:List α}{i:Int}{x:α}(h:at_ l i=some x):0≤i∧i<l.length∧l[i.toNat]?=some x:=by
 unfold at_ at h;split at h
 ·rename_i hc;refine ⟨hc,?_,h⟩;have:=(List.getElem?_eq_some_iff.1 h).1;omega
 ·cases h
theorem Yp {α:Type}{l ys:List α}{i j:Int}(h:cut l i j=some ys):(0≤i∧i≤j∧j≤l.length)∧ys=(l.take j.toNat).drop i.toNat:=by
 unfold cut at h;split at h
 ·rename_i hc;exact ⟨hc,(Option.some.inj h).symm⟩
 ·cases h
theorem AG {a b c:List UInt8}(h:cat a b=some c):c=a++b∧a.length+b.length≤9223372036854775807:=by
 unfold cat at h;split at h
 ·rename_i hc;exact ⟨(Option.some.inj h).symm,hc⟩
 ·cases h
theorem Ou {α:Type}{a b c:List α}(h:app a b=some c):c=a++b∧a.length+b.length≤4294967296:=by
 unfold app at h;split at h
 ·rename_i hc;exact ⟨(Option.some.inj h).symm,hc⟩
 ·cases h
structure Lj (v:Value) (sz:Nat) (i:Int) (b o:Nat):Prop where
 out:∃ a n c,v=.slice (some ⟨b,a,none⟩) n c∧0≤i∧i<n∧a+i.toNat*sz=o
theorem Ec.elem {α:Type}{sz:Nat}{R:List Value→α→Prop}{μ:M}{a:Option Addr}{c:Nat}{xs:List α}{i:Int}{x:α}(h:Ec sz R μ a c xs) (g:at_ xs i=some x) :
  ∃ b o cs,Lj (.slice a xs.length c) sz i b o∧uc μ b o cs∧R cs x:=by
 obtain ⟨j,k,d⟩:=ur g;rcases h.el with rfl | ⟨b,o,rfl,f,e⟩
 ·simp at d
 ·exact ⟨b,_,f i.toNat,⟨o,_,_,rfl,j,k,rfl⟩,(e _ _ d).1,(e _ _ d).2⟩
def ma {α:Type}[Ta α] (μ:M):List Value→List α→Prop
 | cells,[]=>cells=[]
 | cells,x::l=>∃ cs t,cells=cs++t∧Ta.cs μ cs x∧ma μ t l
theorem ma.len {α:Type}[Ta α]{μ:M}:∀ {l:List α}{cells:List Value},ma μ cells l→cells.length=l.length*Ta.sz α
 | [],cells,h=>by rw [ma] at h; simp [h]
 | x::l,cells,h=>by
  rw [ma] at h;obtain ⟨cs,t,rfl,a,b⟩:=h;simp [ma.len b,Ta.nh a,Nat.add_mul,Nat.add_comm]
theorem ma.up {α:Type}[Ta α]{μ I:M}(a:ga μ I):∀ {l:List α}{cells:List Value},ma μ cells l→ma I cells l
 | [],cells,h=>by rw [ma] at h ⊢; exact h
 | x::l,cells,h=>by
  rw [ma] at h ⊢;obtain ⟨cs,t,b,c,d⟩:=h;exact ⟨cs,t,b,Ta.up a c,ma.up a d⟩
theorem ma.cat {α:Type}[Ta α]{μ:M}{b:List α}{a:List Value}(k:ma μ a b):∀ {l:List α}{cells:List Value},ma μ cells l→ma μ (cells++a) (l++b)
 | [],cells,h=>by rw [ma] at h; subst h; exact k
 | x::l,cells,h=>by
  rw [ma] at h;obtain ⟨cs,t,rfl,c,d⟩:=h;rw [List.cons_append,ma];exact ⟨cs,t++a,by simp,c,ma.cat k d⟩
theorem ma.nil {α:Type}[Ta α]{μ:M}:ma μ [] ([]:List α):=rfl
theorem ma.one {α:Type}[Ta α]{μ:M}{cs:List Value}{x:α}(h:Ta.cs μ cs x):ma μ cs [x]:=⟨cs,[],by simp,h,rfl⟩
theorem ma.cons {α:Type}[Ta α]{μ:M}{cs t:List Value}{x:α}{l:List α}(h:Ta.cs μ cs x) (k:ma μ t l):ma μ (cs++t) (x::l):=⟨cs,t,rfl,h,k⟩
theorem ma.Rg {α:Type}[Ta α]{μ:M}:∀ {l:List α}{cells:List Value},ma μ cells l→cells.all Kd=true
 | [],cells,h=>by rw [ma] at h; simp [h]
 | x::l,cells,h=>by
  rw [ma] at h;obtain ⟨cs,t,rfl,a,b⟩:=h;rw [List.all_append,Ta.Rg a,ma.Rg b];rfl
theorem ma.get {α:Type}[Ta α]{μ:M}:∀ {l:List α}{cells:List Value}{i:Nat}{x:α},ma μ cells l→l[i]?=some x→Ta.cs μ ((cells.drop (i*Ta.sz α)).take (Ta.sz α)) x
 | [],cells,i,x,h,a=>by simp at a
 | y::l,cells,i,x,h,a=>by
  rw [ma] at h;obtain ⟨cs,t,rfl,b,c⟩:=h;cases i with
  | zero=>simp at a; subst a; simp [← Ta.nh b]; exact b
  | succ i =>
   simp at a;have:=ma.get c a;have e:(i+1)*Ta.sz α=cs.length+i*Ta.sz α:=by rw [Nat.add_mul,Ta.nh b];omega
   rw [e,← List.drop_drop];simpa using this
theorem ua.cells {α:Type}[Ta α]{μ:M}{a:Option Addr}{c:Nat}:∀ {xs:List α},ua μ a c xs→∃ cells,ma μ cells xs∧(xs≠[]→∃ b o,a=some ⟨b,o,none⟩∧uc μ b o cells):=by
 intro xs h;rcases h.el with rfl | ⟨b,o,rfl,g,p⟩
 ·exact ⟨[],rfl,fun h=>absurd rfl h⟩
 ·have key:∀ (l:List α) (k:Nat),xs.drop k=l→∃ cells,ma μ cells l∧uc μ b (o+k*Ta.sz α) cells:=by
   intro l
   induction l with
   | nil=>intro k _; exact ⟨[],rfl,fun w _ j v d=>by simp at d⟩
   | cons x l q =>
    intro k m;have r:xs[k]?=some x:=by
     have:=congrArg (fun l=>l[0]?) m;simpa using this
    obtain ⟨cells,f,i⟩:=q (k+1) (by rw [← List.tail_drop,m];rfl);obtain ⟨s,n⟩:=p k x r;refine ⟨g k++cells,ma.cons n f,fun w hw j v d=>?_⟩;rcases Nat.lt_or_ge j (g k).length with e | e
    ·rw [List.getElem?_append_left e] at d;exact s w hw j v d
    ·rw [List.getElem?_append_right e] at d;have:=i w hw _ v d;rw [Ta.nh n] at this e;rw [show o+(k+1)*Ta.sz α+(j - Ta.sz α)=o+k*Ta.sz α+j by rw [Nat.add_mul];omega] at this;exact this
  obtain ⟨cells,f,i⟩:=key xs 0 rfl;exact ⟨cells,f,fun _=>⟨b,o,rfl,by simpa using i⟩⟩
section
variable {P:Program}{Q:Exit→Act→World→Prop}{K:List Value→List Deferred→World→Prop}{fr V:List Value}{ds:List Deferred}{w:World}
variable {dst:Option Tmp}{ty:TypeId}{pos:String}{after:Array Edge}{g:Option (Nat×Bool)}
variable {w0:World}{rs rs':List Fb}{μ:M}
variable {T:TypeId}{d:TypeDesc}{Ef:Bool}{Ed:List Value}{n m:Nat}
theorem td {c:Code}(f:List Nat) (i:f.Nodup) (d:List xb→World→Prop) (j:∀ m w,d m w→opens m=f)
  (h:Ce P c (Exit.then (fun a' w'=>∃ m V,a'=F V ds∧Ie m fr V∧d m w') Q) fr ds w)
  (k:∀ m t w,d m w→Q .normal (F (ji t m fr) ds) w):Ce P c Q fr ds w:=⟨
 wp_mono h.out fun e a w' b=>by
  cases e with
  | normal =>
   obtain ⟨m,V,rfl,n,g⟩:=b;obtain ⟨t',o⟩:=n.ex (by rw [j m w' g];exact i);have:=k m t' w' g;rw [← o] at this;exact this
  | exit id=>exact b
  | goto l=>exact b
  | ret=>exact b
  | panic p=>exact b
  | outgrown=>exact b⟩
theorem De {c:Code}(f:List Nat) (k:f.Nodup) (b:Nat→List xb→World→Prop) (h:∀ n m w,b n m w→opens m=f) (g:Nat) (m0:List xb) (l:Ie m0 fr fr) (i:b g m0 w)
  (round:∀ n m t w,b n m w→Ce P c (Exit.then (fun a' w'=>∃ d e V,a'=F V ds∧Ie e fr V∧b d e w'∧d<n) Q) (ji t m fr) ds w):Ce P (.loop c) Q fr ds w:=by
 refine KH (α:={ p:Nat×List xb // opens p.2=f }) f k (fun p=>p.1.2) (fun p=>p.2) (fun p w=>b p.1.1 p.1.2 w) (fun p _=>p.1.1) ⟨(g,m0),h g m0 w i⟩ l i fun p t w o=>?_;refine (round p.1.1 p.1.2 t w o).mono (aE fun a w' ⟨d,e,V,q,r,j,s⟩=>⟨⟨(d,e),h d e w' j⟩,V,q,r,j,s⟩)
theorem ch {c:Operand}{x y:Code}{b:Bool}(hc:pb fr c (.bool b)) (a:b=true→Ce P x Q fr ds w) (d:¬ b=true→Ce P y Q fr ds w):Ce P (.cond c x y) Q fr ds w :=
 lz hc a fun h=>d (by rw [h];simp)
theorem yj {c:Operand}{x y:Code}{b:Bool}(hc:pb fr c (.bool (!b))) (a:¬ b=true→Ce P x Q fr ds w) (d:b=true→Ce P y Q fr ds w):Ce P (.cond c x y) Q fr ds w :=
 lz hc (fun h=>a (by simpa using h)) fun h=>d (by simpa using h)
theorem fC {ops:Array Oper}{l:List Oper}{Vg Wg:List Value}{d:Nat}{b:Bool}(a:yc fr d (.bool b)) (c:tc fr d (.bool true) Vg) (e:tc fr d (.bool false) Wg)
  (f:b=true→Jf P ops Q l Vg ds w) (g:¬ b=true→Jf P ops Q l Wg ds w):Jf P ops Q l fr ds w:=mz a c e f fun h=>g (by rw [h];simp)
theorem cv {ops:Array Oper}{l:List Oper}{Vg Wg:List Value}{d:Nat}{b:Bool}(a:yc fr d (.bool (!b))) (c:tc fr d (.bool true) Vg) (e:tc fr d (.bool false) Wg)
  (f:¬ b=true→Jf P ops Q l Vg ds w) (g:b=true→Jf P ops Q l Wg ds w):Jf P ops Q l fr ds w:=mz a c e (fun h=>f (by simpa using h)) fun h=>g (by simpa using h)
inductive Tc:List Fb→Nat→List Fb→Prop where
 | z {rs:List Fb}:Tc rs 0 rs
 | s {a r:Fb} {rs rs':List Fb} {k:Nat} (h:Tc rs k (r::rs')):Tc (a::rs) (k+1) (r::a::rs')
theorem Tc.perm {k:Nat}{rs rs':List Fb}(h:Tc rs k rs'):rs.Perm rs':=by
 induction h with
 | z=>exact .refl _
 | s _ a=>exact (a.cons _).trans (.swap _ _ _)
theorem _root_.Go.wc.Sep.ca {k:Nat}{S Od:Nat→Prop}{A:World→Prop}(h:Sep S Od w0 w rs A) (a:Tc rs k rs'):Sep S Od w0 w rs' A where
 keeps:=h.keeps
 all r d:=h.all r (a.perm.mem_iff.2 d)
 ki:=(a.perm.filterMap _).nodup_iff.1 h.ki
 new b e:=h.new b ((a.perm.filterMap _).mem_iff.2 e)
 Ci:=h.Ci.mono fun k _ c=>⟨c.1,fun hm=>c.2 ((a.perm.filterMap Fb.block).mem_iff.2 hm)⟩
theorem _root_.Go.wc.Sep.sv {r:Fb}{B:World→Prop}(h:la μ w0 w (r::rs)) (a:∀ w,r.holds w→B w):la (fun w=>μ w∧B w) w0 w rs :=
 Sep.freeze h (d0 (α:=Fb)) ha.z (fun _ _=>.inl trivial) a
theorem _root_.Go.wc.Sep.Vh {α:Type}[Ta α]{v:Value}{cells:List Value}{l:List α}(h:la μ w0 w (.row v T (Ta.sz α) n cells::rs)) (p:ma μ cells l) (e:l.length=n) :
  ∃ I a c,v=.slice a l.length c∧ga μ I∧ua I a c l∧la I w0 w rs:=by
 have q:Row w v T (Ta.sz α) n cells:=h.all _ (List.mem_cons_self ..);have f:=Sep.sv (B:=fun w=>Row w v T (Ta.sz α) n cells) h fun w hw=>hw;have hle:ga μ (fun w=>μ w∧Row w v T (Ta.sz α) n cells):=fun w hw=>hw.1;rcases q.2 with ⟨rfl,rfl⟩ | ⟨g,o,cap,cur,rfl,C,r,s,D,F⟩
 ·obtain rfl:=List.eq_nil_of_length_eq_zero e;exact ⟨_,none,0,rfl,hle,ua.nil,f⟩
 ·subst e;refine ⟨_,some ⟨g,o,none⟩,cap,rfl,hle,⟨r,s,.inr ⟨g,o,rfl,fun i=>(cells.drop (i*Ta.sz α)).take (Ta.sz α),fun i x k=>⟨?_,?_⟩⟩⟩,f⟩
  ·intro G t j u d;obtain ⟨-,y⟩:=t;have z:0<l.length:=by have:=(List.getElem?_eq_some_iff.1 k).1;omega
   obtain ⟨b,H,c,m,hc⟩:=y.Eo z;simp at m;obtain ⟨⟨rfl,rfl⟩,rfl⟩:=m;have A:j<Ta.sz α:=by
    have:=(List.getElem?_eq_some_iff.1 d).1;simp at this;omega
   rw [List.getElem?_take_of_lt A,List.getElem?_drop] at d;have:=hc _ u d;rw [← Nat.add_assoc] at this;exact this
  ·exact Ta.up hle (p.get k)
theorem _root_.Go.wc.Sep.ah {α:Type}[Ta α]{b:Nat}{cells:List Value}{l:List α}(h:la μ w0 w (.ba b T cells::rs)) (c:ma μ cells l) (hlen:l.length≤maxLen) :
  ∃ I,ga μ I∧ua I (some ⟨b,0,none⟩) l.length l∧la I w0 w rs:=by
 have d:=Sep.sv (B:=fun w=>bj w b T cells) h fun w hw=>hw;have hle:ga μ (fun w=>μ w∧bj w b T cells):=fun w hw=>hw.1;refine ⟨_,hle,⟨Nat.le_refl _,hlen,.inr ⟨b,0,rfl,fun i=>(cells.drop (i*Ta.sz α)).take (Ta.sz α),fun i x e=>⟨?_,Ta.up hle (c.get e)⟩⟩⟩,d⟩;intro k f j u a;have g:j<Ta.sz α:=by
  have:=(List.getElem?_eq_some_iff.1 a).1;simp at this;omega
 rw [List.getElem?_take_of_lt g,List.getElem?_drop] at a;have:=f.2.cells _ u a;rw [Nat.zero_add] at this ⊢;exact this
theorem _root_.Go.wc.Sep.Ql {b:Nat}{cells:List Value}(h:la μ w0 w (.ba b T cells::rs)):∃ I,ga μ I∧uc I b 0 cells∧la I w0 w rs :=
 ⟨_,fun _ hw=>hw.1,fun _ hw=>hw.2.cells,Sep.sv (B:=fun w=>bj w b T cells) h fun _ hw=>hw⟩
theorem _root_.Go.wc.Sep.yn {sz:Nat}{b k:Nat}{cells:List Value}{S Od:Nat→Prop}{A:World→Prop}(h:Sep S Od w0 w rs A) (c:yc rs k (.ba b T cells)) (a:cells.length=n*sz) (hlen:n≤maxLen)
  (d:tc rs k (.row (.slice (some ⟨b,0,none⟩) n n) T sz n cells) rs'):Sep S Od w0 w rs' A:=by
 have e:bj w b T cells:=h.get c;refine h.put (b:=b) c rfl rfl d ⟨a,.inr ⟨b,0,n,⟨cells⟩,rfl,e,Nat.le_refl _,hlen,by simp [a],by simp [← a]⟩⟩ (di.refl _)
theorem Wb {x y:Operand}{v:Value}{b o sz:Nat}{k:IntKind}{i:Int}{e:TypeId}(a:P.underlying T=some (.slice e)) (d:Kc P e Ef Ed sz m) (f:pb fr x v) (h:pb fr y (.int k i)) (he:Lj v sz i b o):bf P (Oper.mk dst (.indexAddr T x y) ty pos after g) fr ((.pointer (some ⟨b,o,none⟩))):=by
 obtain ⟨q,n,c,rfl,j,l,p⟩:=he.out;exact Er a d f h ⟨j,l⟩ p
theorem sd {x y:Operand}{t t':TypeId}{a b c:Int}(d:pb fr x (.int .i64 a)) (e:pb fr y (.int .i64 b)) (h:i64 (a+b)=some c):bf P (Oper.mk dst (.binOp .add t x y t') ty pos after g) fr ((.int .i64 c)):=hy d e (cx h)
theorem BG {x y:Operand}{t t':TypeId}{a b c:Int}(d:pb fr x (.int .i64 a)) (e:pb fr y (.int .i64 b)) (h:i64 (a+b)=some c) (f:rf fr dst ((.int .i64 c)) V) (k:K V ds w):Md P (Oper.mk dst (.binOp .add t x y t') ty pos after g) fr ds w K Q:=wa (sd d e h) f k
theorem Mg {x y:Operand}{t t':TypeId}{a b c:Int}(d:pb fr x (.int .i64 a)) (e:pb fr y (.int .i64 b)) (h:i64 (a - b)=some c):bf P (Oper.mk dst (.binOp .sub t x y t') ty pos after g) fr ((.int .i64 c)):=iy d e (cx h)
theorem CG {x y:Operand}{t t':TypeId}{a b c:Int}(d:pb fr x (.int .i64 a)) (e:pb fr y (.int .i64 b)) (h:i64 (a - b)=some c) (f:rf fr dst ((.int .i64 c)) V) (k:K V ds w):Md P (Oper.mk dst (.binOp .sub t x y t') ty pos after g) fr ds w K Q:=wa (Mg d e h) f k
theorem DG {x y:Operand}{t t':TypeId}{a b c:Int}(d:pb fr x (.int .i64 a)) (e:pb fr y (.int .i64 b)) (h:i64 (a*b)=some c):bf P (Oper.mk dst (.binOp .mul t x y t') ty pos after g) fr ((.int .i64 c)):=jy d e (cx h)
theorem Zp {a b c:Int}(h:quo a b=some c):b≠0∧IntKind.i64.wrap (a.tdiv b)=c:=by
 unfold quo at h;split at h
 ·cases h
 ·rename_i d;exact ⟨d,Option.some.inj h⟩
theorem EG {x y:Operand}{t:TypeId}{k:IntKind}{a:List UInt8}{i:Int}{c:UInt8}(b:P.underlying t=some .string) (d:pb fr x (S a)) (e:pb fr y (.int k i)) (h:at_ a i=some c):bf P (Oper.mk dst (.index t x y) ty pos after g) fr (.int .u8 c.toNat):=vG b d e (ur h).1 (ur h).2.2
theorem Pu {x y:Operand}{t:TypeId}{k:IntKind}{a:List UInt8}{i:Int}{c:UInt8}(b:P.underlying t=some .string) (d:pb fr x (S a)) (e:pb fr y (.int k i)) (h:at_ a i=some c) (f:rf fr dst (.int .u8 c.toNat) V) (kk:K V ds w):Md P (Oper.mk dst (.index t x y) ty pos after g) fr ds w K Q:=wa (EG b d e h) f kk
theorem yB {x y:Operand}{t t':TypeId}{a b c:List UInt8}(d:pb fr x (S a)) (e:pb fr y (S b)) (h:cat a b=some c):bf P (Oper.mk dst (.binOp .add t x y t') ty pos after g) fr (S c):=by
 obtain ⟨rfl,f⟩:=AG h;exact QH d e f
structure Un (v:Value) (sz:Nat) (i j:Option Int) (b:Value):Prop where
 out:∃ a n c,v=.slice a n c∧0≤i.getD 0∧i.getD 0≤j.getD n∧j.getD n≤c∧b=.slice (if c=(i.getD 0).toNat then a else a.map (·.add ((i.getD 0).toNat*sz))) ((j.getD n).toNat - (i.getD 0).toNat) (c - (i.getD 0).toNat)
inductive zv (fr:List Value):Option Operand→Option Int→Prop where
 | n:zv fr none none
 | s {x:Operand} {i:Int} (h:pb fr x (.int .i64 i)):zv fr (some x) (some i)
theorem Jj {x:Operand}{uj up:Option Operand}{v p:Value}{sz:Nat}{i j:Option Int}{e:TypeId}(f:P.underlying T=some (.slice e)) (k:Kc P e Ef Ed sz m) (l:pb fr x v) (cb:zv fr uj i) (q:zv fr up j) (he:Un v sz i j p):bf P (Oper.mk dst (.slice T x uj up none) ty pos after g) fr p:=by
 obtain ⟨a,n,c,rfl,o,b,d,rfl⟩:=he.out;refine ⟨fun ds w=>?_⟩;cases cb with
 | n =>
  cases q with
  | n =>
   simp at b d;simp [execOp,l ds,Instr.sliceAt,Instr.slice,run_underlying f,Instr.sliceBounds,k.sizeOf];try rfl
  | s h =>
   rename_i y i;simp at b d;have qa:i≤(c:Int):=d;simp [execOp,l ds,h ds,Instr.sliceAt,Instr.slice,run_underlying f,Instr.sliceBounds,Instr.sliceBound,asIntOf,k.sizeOf,b,qa];try rfl
 | s h =>
  rename_i y i;cases q with
  | n =>
   simp at o b d;simp [execOp,l ds,h ds,Instr.sliceAt,Instr.slice,run_underlying f,Instr.sliceBounds,Instr.sliceBound,asIntOf,k.sizeOf,o,b];try rfl
  | s r =>
   rename_i u i';simp at o b d;have qa:0≤i':=by omega
   have t:(i'.toNat:Int)=i':=by omega
   simp [execOp,l ds,h ds,r ds,Instr.sliceAt,Instr.slice,run_underlying f,Instr.sliceBounds,Instr.sliceBound,asIntOf,k.sizeOf,o,b,d,qa,t];try rfl
theorem ua.Vn {α:Type}[Ta α]{μ:M}{a:Option Addr}{c:Nat}{xs ys:List α}{i j:Option Int}(h:ua μ a c xs) (g:cut xs (i.getD 0) (j.getD xs.length)=some ys) :
  ∃ a' c',Un (.slice a xs.length c) (Ta.sz α) i j (.slice a' ys.length c')∧ua μ a' c' ys:=by
 obtain ⟨⟨e,l,p⟩,rfl⟩:=Yp g;have hle:=h.le;refine ⟨(if c=(i.getD 0).toNat then a else a.map (·.add ((i.getD 0).toNat*Ta.sz α))),c - (i.getD 0).toNat,⟨a,xs.length,c,rfl,e,l,by omega,?_⟩,?_⟩
 ·rw [show ((xs.take (j.getD ↑xs.length).toNat).drop (i.getD 0).toNat).length=(j.getD ↑xs.length).toNat - (i.getD 0).toNat by simp;omega]
 ·refine ⟨by simp;omega,by have:=h.cap;omega,?_⟩;rcases h.el with rfl | ⟨b,o,rfl,f,m⟩
  ·left;simp
  ·by_cases hc:c=(i.getD 0).toNat
   ·left;rw [List.drop_eq_nil_iff];simp;omega
   ·right;rw [if_neg hc];refine ⟨b,o+(i.getD 0).toNat*Ta.sz α,by simp [ak],fun k=>f ((i.getD 0).toNat+k),fun k x d=>?_⟩;rw [List.getElem?_drop] at d;have n:(i.getD 0).toNat+k<(j.getD ↑xs.length).toNat:=by
     have:=(List.getElem?_eq_some_iff.1 d).1;simp at this;omega
    rw [List.getElem?_take_of_lt n] at d;have:=m _ x d;rw [Nat.add_mul,← Nat.add_assoc] at this;exact this
end
end Go.hd
namespace Go.hd
open Go.wc Go.RowKit
section
variable {P:Program}{Q:Exit→Act→World→Prop}{K:List Value→List Deferred→World→Prop}{fr V:List Value}{ds:List Deferred}{w:World}
variable {dst:Option Tmp}{ty:TypeId}{pos:String}{after:Array Edge}{g:Option (Nat×Bool)}
variable {w0:World}{rs rs':List Fb}{μ:M}
variable {T:TypeId}{d:TypeDesc}{Ef:Bool}{Ed:List Value}{n m:Nat}
theorem dx {x uj:Operand}{t:TypeId}{a b:List UInt8}{i:Int}(c:P.underlying t=some .string) (d:pb fr x (S a)) (cb:pb fr uj (.int .i64 i)) (h:cut a i a.length=some b):bf P (Oper.mk dst (.slice t x (some uj) none none) ty pos after g) fr (S b):=by
 obtain ⟨⟨e,f,j⟩,rfl⟩:=Yp h;have:=sF (dst:=dst) (ty:=ty) (pos:=pos) (after:=after) (g:=g) c d cb ⟨e,f⟩;simpa using this
theorem fx {x up:Operand}{t:TypeId}{a b:List UInt8}{j:Int}(c:P.underlying t=some .string) (d:pb fr x (S a)) (e:pb fr up (.int .i64 j)) (h:cut a 0 j=some b):bf P (Oper.mk dst (.slice t x none (some up) none) ty pos after g) fr (S b):=by
 obtain ⟨⟨k,f,i⟩,rfl⟩:=Yp h;have:=tF (dst:=dst) (ty:=ty) (pos:=pos) (after:=after) (g:=g) c d e ⟨f,i⟩;simpa using this
theorem _root_.Go.wc.Row.Kd {v:Value}{sz n:Nat}{xs:List Value}(h:Row w v T sz n xs):Kd v=true:=by
 rcases h.2 with ⟨rfl,_⟩ | ⟨g,o,cap,cur,rfl,_⟩<;>rfl
theorem Am {f:Nat}{xs ys:List Operand}{vs us:List Value}(a:Bk fr xs vs) (hu:Bk fr ys us):bf P (Oper.mk dst (.makeFunc (.func f) ⟨xs⟩ ⟨ys⟩) ty pos after g) fr (.func (.func f) ⟨vs⟩ ⟨us⟩):=by
 refine ⟨fun ds w=>?_⟩;have b:=a ds;have c:=hu ds;simp [execOp,Instr.makeFunc,b,c]
theorem ma.app {α:Type}[Ta α]{cells news:List Value}{l xs a:List α}(h:ma μ cells l) (k:ma μ news xs) (g:app l xs=some a):ma μ (cells++news) a:=by
 obtain ⟨rfl,-⟩:=Ou g;exact ma.cat k h
theorem wu {α:Type}{l xs a:List α}(g:app l xs=some a):a.length=l.length+xs.length∧l.length+xs.length≤4294967296:=by
 obtain ⟨rfl,h⟩:=Ou g;exact ⟨by simp,h⟩
theorem Gh {α:Type}[Ta α]{t:TypeId}{s x:Operand}{v:Value}{bytes k b d c:Nat}{cells news:List Value}{l ys e:List α}(i:P.underlying t=some (.slice T)) (j:Kc P T Ef Ed (Ta.sz α) bytes) (m:Ed.length=Ta.sz α)
  (n:pb fr s v) (o:pb fr x (.slice (some ⟨b,0,none⟩) d c)) (p:la μ w0 w rs) (q:yc rs k (.row v T (Ta.sz α) l.length cells)) (r:Yi w b 0 news) (f:ma μ news ys) (hm:ys.length=d) (u:app l ys=some e) (y:bytes≤4096)
  (h:∀ a w' rs',tc rs k (.row a T (Ta.sz α) e.length (cells++news)) rs'→la μ w0 w' rs'→Og fr dst a fun V=>K V ds w') :
  Md P (Oper.mk dst (.call { callee:=.builtin .append,args:=#[s,x],argTypes:=#[t,t] }) ty pos after g) fr ds w K Q:=by
 obtain ⟨z,A⟩:=wu u;subst hm;refine Uq i j (by simp [m,Ta.pos]) n o p q r f.len f.Rg ⟨A,y⟩ fun a w' rs' B=>h a w' rs' (by rw [z];exact B)
theorem _root_.Go.wc.Yi.Je {b o:Nat}{cs:List Value}(h:Yi w b o cs) (i n:Nat):Yi w b (o+i) ((cs.drop i).take n):=by
 intro j v a;have c:j<n:=by
  have:=(List.getElem?_eq_some_iff.1 a).1;simp at this;omega
 rw [List.getElem?_take_of_lt c,List.getElem?_drop] at a;have:=h _ v a;rw [← Nat.add_assoc] at this;exact this
theorem uc.Je {b o:Nat}{cs:List Value}(h:uc μ b o cs) (i n:Nat):uc μ b (o+i) ((cs.drop i).take n):=fun w hw=>(h w hw).Je i n
theorem Pb {x y:Operand}{b k:Nat}{cs vs:List Value}(d:Kc P T Ef Ed n m) (e:pb fr x (.pointer (some ⟨b,0,none⟩))) (f:pb fr y (.agg ⟨vs⟩)) (i:vs.length=n) (j:vs.all Kd=true)
  {S Od:Nat→Prop}{A:World→Prop}(l:Sep S Od w0 w rs A) {a:TypeId}(o:yc rs k (.ba b a cs)) (he:cs.length=n) (p:tc rs k (.ba b a vs) rs')
  (rb:rf fr dst undef V) (h:∀ w',Sep S Od w0 w' rs' A→K V ds w'):Md P (Oper.mk dst (.store T x y) ty pos after g) fr ds w K Q:=by
 have key:∀ (vs cs pre:List Value),vs.length=cs.length→gf (pre++cs) pre.length vs (pre++vs):=by
  intro vs
  induction vs with
  | nil=>intro cs pre h; cases cs with
   | nil=>exact .z
   | cons c cs=>simp at h
  | cons v vs q =>
   intro cs pre h;cases cs with
   | nil=>simp at h
   | cons c cs =>
    refine .s (cs1:=pre++v::cs) (by unfold tc;simp) (by simp) ?_;have:=q cs (pre++[v]) (by simpa using h);simpa using this
 exact wo d e f rfl i j l o (by simpa using key vs cs [] (by omega)) (by simp) p rb h
theorem wm {pl:Array (Nat×Nat)}{xs:List (Nat×Operand)}{out:List Value}(a:Kc P T Ef Ed n m) (b:eh P T pl) (c:Ma fr pl Ed xs out):bf P (Oper.mk dst (.build T ⟨xs⟩) ty pos after g) fr (.agg ⟨out⟩):=by
 refine ⟨fun ds w=>?_⟩;obtain ⟨z,d,hc⟩:=a.zero (w:=w);have e:=c.run (ds:=ds);obtain ⟨k,f,h⟩:=b.out;have hm:=h w;have j:((⟨xs⟩:Array (Nat×Operand)).map fun (i,x)=>(i,(F fr ds).eval x)).toList=xs.map fun p=>(p.1,(F fr ds).eval p.2):=by simp
 unfold execOp;simp only [Instr.build,Sem.run_bind,d,Result.andThen_ok,run_underlying f];rw [hm];simp only [Result.andThen_ok,hc,j];rw [e];simp
end
end Go.hd
namespace Go.wc
theorem na {α:Type}{a0 O a2 a3 a4 a5 bc Fc jb a9 v:α}{l:List α}{n:Nat}(h:yc l n v):yc (a0::O::a2::a3::a4::a5::bc::Fc::jb::a9::l) (n+10) v:=h
theorem Ra {α:Type}{a0 O a2 a3 a4 a5 bc Fc jb a9 v:α}{l a:List α}{n:Nat}(h:tc l n v a):tc (a0::O::a2::a3::a4::a5::bc::Fc::jb::a9::l) (n+10) v (a0::O::a2::a3::a4::a5::bc::Fc::jb::a9::a):=by unfold tc at *;subst h;rfl
theorem ra {α:Type}{a0 O a2 a3 a4 a5 bc Fc jb a9 Yd ec a12 a qc me b kd c Td v:α}{l:List α}{n:Nat}(h:yc l n v):yc (a0::O::a2::a3::a4::a5::bc::Fc::jb::a9::Yd::ec::a12::a::qc::me::b::kd::c::Td::l) (n+20) v:=h
theorem bb {α:Type}{a0 O a2 a3 a4 a5 bc Fc jb a9 Yd ec a12 a qc me b kd c Td v:α}{l d:List α}{n:Nat}(h:tc l n v d):tc (a0::O::a2::a3::a4::a5::bc::Fc::jb::a9::Yd::ec::a12::a::qc::me::b::kd::c::Td::l) (n+20) v (a0::O::a2::a3::a4::a5::bc::Fc::jb::a9::Yd::ec::a12::a::qc::me::b::kd::c::Td::d):=by unfold tc at *;subst h;rfl
theorem pa {α:Type}{a0 O a2 a3 a4 a5 bc Fc jb a9 Yd ec a12 a qc me b kd c Td a20 a21 a22 a23 a24 a25 a26 fe a28 d v:α}{l:List α}{n:Nat}(h:yc l n v):yc (a0::O::a2::a3::a4::a5::bc::Fc::jb::a9::Yd::ec::a12::a::qc::me::b::kd::c::Td::a20::a21::a22::a23::a24::a25::a26::fe::a28::d::l) (n+30) v:=h
theorem lb {α:Type}{a0 O a2 a3 a4 a5 bc Fc jb a9 Yd ec a12 a qc me b kd c Td a20 a21 a22 a23 a24 a25 a26 fe a28 d v:α}{l e:List α}{n:Nat}(h:tc l n v e):tc (a0::O::a2::a3::a4::a5::bc::Fc::jb::a9::Yd::ec::a12::a::qc::me::b::kd::c::Td::a20::a21::a22::a23::a24::a25::a26::fe::a28::d::l) (n+30) v (a0::O::a2::a3::a4::a5::bc::Fc::jb::a9::Yd::ec::a12::a::qc::me::b::kd::c::Td::a20::a21::a22::a23::a24::a25::a26::fe::a28::d::e):=by unfold tc at *;subst h;rfl
theorem Aa {α:Type}{a0 O a2 a3 a4 a5 bc Fc jb a9 Yd ec a12 a qc me b kd c Td a20 a21 a22 a23 a24 a25 a26 fe a28 d He a31 e f g i Se a37 j k v:α}{l:List α}{n:Nat}(h:yc l n v):yc (a0::O::a2::a3::a4::a5::bc::Fc::jb::a9::Yd::ec::a12::a::qc::me::b::kd::c::Td::a20::a21::a22::a23::a24::a25::a26::fe::a28::d::He::a31::e::f::g::i::Se::a37::j::k::l) (n+40) v:=h
theorem Gb {α:Type}{a0 O a2 a3 a4 a5 bc Fc jb a9 Yd ec a12 a qc me b kd c Td a20 a21 a22 a23 a24 a25 a26 fe a28 d He a31 e f g i Se a37 j k v:α}{l m:List α}{n:Nat}(h:tc l n v m):tc (a0::O::a2::a3::a4::a5::bc::Fc::jb::a9::Yd::ec::a12::a::qc::me::b::kd::c::Td::a20::a21::a22::a23::a24::a25::a26::fe::a28::d::He::a31::e::f::g::i::Se::a37::j::k::l) (n+40) v (a0::O::a2::a3::a4::a5::bc::Fc::jb::a9::Yd::ec::a12::a::qc::me::b::kd::c::Td::a20::a21::a22::a23::a24::a25::a26::fe::a28::d::He::a31::e::f::g::i::Se::a37::j::k::m):=by unfold tc at *;subst h;rfl
theorem Ka {α:Type}{a0 O a2 a3 a4 a5 bc Fc jb a9 Yd ec a12 a qc me b kd c Td a20 a21 a22 a23 a24 a25 a26 fe a28 d He a31 e f g i Se a37 j k a40 m o p q r a46 s t a49 v:α}{l:List α}{n:Nat}(h:yc l n v):yc (a0::O::a2::a3::a4::a5::bc::Fc::jb::a9::Yd::ec::a12::a::qc::me::b::kd::c::Td::a20::a21::a22::a23::a24::a25::a26::fe::a28::d::He::a31::e::f::g::i::Se::a37::j::k::a40::m::o::p::q::r::a46::s::t::a49::l) (n+50) v:=h
theorem ic {α:Type}{a0 O a2 a3 a4 a5 bc Fc jb a9 Yd ec a12 a qc me b kd c Td a20 a21 a22 a23 a24 a25 a26 fe a28 d He a31 e f g i Se a37 j k a40 m o p q r a46 s t a49 v:α}{l u:List α}{n:Nat}(h:tc l n v u):tc (a0::O::a2::a3::a4::a5::bc::Fc::jb::a9::Yd::ec::a12::a::qc::me::b::kd::c::Td::a20::a21::a22::a23::a24::a25::a26::fe::a28::d::He::a31::e::f::g::i::Se::a37::j::k::a40::m::o::p::q::r::a46::s::t::a49::l) (n+50) v (a0::O::a2::a3::a4::a5::bc::Fc::jb::a9::Yd::ec::a12::a::qc::me::b::kd::c::Td::a20::a21::a22::a23::a24::a25::a26::fe::a28::d::He::a31::e::f::g::i::Se::a37::j::k::a40::m::o::p::q::r::a46::s::t::a49::u):=by unfold tc at *;subst h;rfl
theorem Bc {α:Type}{a0 O a2 a3 a4 a5 bc Fc jb a9 Yd ec a12 a qc me b kd c Td a20 a21 a22 a23 a24 a25 a26 fe a28 d He a31 e f g i Se a37 j k a40 m o p q r a46 s t a49 u a51 w a53 x y z A B a59 v:α}{l:List α}{n:Nat}(h:yc l n v):yc (a0::O::a2::a3::a4::a5::bc::Fc::jb::a9::Yd::ec::a12::a::qc::me::b::kd::c::Td::a20::a21::a22::a23::a24::a25::a26::fe::a28::d::He::a31::e::f::g::i::Se::a37::j::k::a40::m::o::p::q::r::a46::s::t::a49::u::a51::w::a53::x::y::z::A::B::a59::l) (n+60) v:=h
theorem re {α:Type}{a0 O a2 a3 a4 a5 bc Fc jb a9 Yd ec a12 a qc me b kd c Td a20 a21 a22 a23 a24 a25 a26 fe a28 d He a31 e f g i Se a37 j k a40 m o p q r a46 s t a49 u a51 w a53 x y z A B a59 v:α}{l C:List α}{n:Nat}(h:tc l n v C):tc (a0::O::a2::a3::a4::a5::bc::Fc::jb::a9::Yd::ec::a12::a::qc::me::b::kd::c::Td::a20::a21::a22::a23::a24::a25::a26::fe::a28::d::He::a31::e::f::g::i::Se::a37::j::k::a40::m::o::p::q::r::a46::s::t::a49::u::a51::w::a53::x::y::z::A::B::a59::l) (n+60) v (a0::O::a2::a3::a4::a5::bc::Fc::jb::a9::Yd::ec::a12::a::qc::me::b::kd::c::Td::a20::a21::a22::a23::a24::a25::a26::fe::a28::d::He::a31::e::f::g::i::Se::a37::j::k::a40::m::o::p::q::r::a46::s::t::a49::u::a51::w::a53::x::y::z::A::B::a59::C):=by unfold tc at *;subst h;rfl
theorem Gc {α:Type}{a0 O a2 a3 a4 a5 bc Fc jb a9 Yd ec a12 a qc me b kd c Td a20 a21 a22 a23 a24 a25 a26 fe a28 d He a31 e f g i Se a37 j k a40 m o p q r a46 s t a49 u a51 w a53 x y z A B a59 C D F G H K M N P Q v:α}{l:List α}{n:Nat}(h:yc l n v):yc (a0::O::a2::a3::a4::a5::bc::Fc::jb::a9::Yd::ec::a12::a::qc::me::b::kd::c::Td::a20::a21::a22::a23::a24::a25::a26::fe::a28::d::He::a31::e::f::g::i::Se::a37::j::k::a40::m::o::p::q::r::a46::s::t::a49::u::a51::w::a53::x::y::z::A::B::a59::C::D::F::G::H::K::M::N::P::Q::l) (n+70) v:=h
theorem Of {α:Type}{a0 O a2 a3 a4 a5 bc Fc jb a9 Yd ec a12 a qc me b kd c Td a20 a21 a22 a23 a24 a25 a26 fe a28 d He a31 e f g i Se a37 j k a40 m o p q r a46 s t a49 u a51 w a53 x y z A B a59 C D F G H K M N P Q v:α}{l R:List α}{n:Nat}(h:tc l n v R):tc (a0::O::a2::a3::a4::a5::bc::Fc::jb::a9::Yd::ec::a12::a::qc::me::b::kd::c::Td::a20::a21::a22::a23::a24::a25::a26::fe::a28::d::He::a31::e::f::g::i::Se::a37::j::k::a40::m::o::p::q::r::a46::s::t::a49::u::a51::w::a53::x::y::z::A::B::a59::C::D::F::G::H::K::M::N::P::Q::l) (n+70) v (a0::O::a2::a3::a4::a5::bc::Fc::jb::a9::Yd::ec::a12::a::qc::me::b::kd::c::Td::a20::a21::a22::a23::a24::a25::a26::fe::a28::d::He::a31::e::f::g::i::Se::a37::j::k::a40::m::o::p::q::r::a46::s::t::a49::u::a51::w::a53::x::y::z::A::B::a59::C::D::F::G::H::K::M::N::P::Q::R):=by unfold tc at *;subst h;rfl
theorem Ub {α:Type}{a0 O a2 a3 a4 a5 bc Fc jb a9 Yd ec a12 a qc me b kd c Td a20 a21 a22 a23 a24 a25 a26 fe a28 d He a31 e f g i Se a37 j k a40 m o p q r a46 s t a49 u a51 w a53 x y z A B a59 C D F G H K M N P Q a70 R a72 S T a75 a76 U W X v:α}{l:List α}{n:Nat}(h:yc l n v):yc (a0::O::a2::a3::a4::a5::bc::Fc::jb::a9::Yd::ec::a12::a::qc::me::b::kd::c::Td::a20::a21::a22::a23::a24::a25::a26::fe::a28::d::He::a31::e::f::g::i::Se::a37::j::k::a40::m::o::p::q::r::a46::s::t::a49::u::a51::w::a53::x::y::z::A::B::a59::C::D::F::G::H::K::M::N::P::Q::a70::R::a72::S::T::a75::a76::U::W::X::l) (n+80) v:=h
theorem Te {α:Type}{a0 O a2 a3 a4 a5 bc Fc jb a9 Yd ec a12 a qc me b kd c Td a20 a21 a22 a23 a24 a25 a26 fe a28 d He a31 e f g i Se a37 j k a40 m o p q r a46 s t a49 u a51 w a53 x y z A B a59 C D F G H K M N P Q a70 R a72 S T a75 a76 U W X v:α}{l Y:List α}{n:Nat}(h:tc l n v Y):tc (a0::O::a2::a3::a4::a5::bc::Fc::jb::a9::Yd::ec::a12::a::qc::me::b::kd::c::Td::a20::a21::a22::a23::a24::a25::a26::fe::a28::d::He::a31::e::f::g::i::Se::a37::j::k::a40::m::o::p::q::r::a46::s::t::a49::u::a51::w::a53::x::y::z::A::B::a59::C::D::F::G::H::K::M::N::P::Q::a70::R::a72::S::T::a75::a76::U::W::X::l) (n+80) v (a0::O::a2::a3::a4::a5::bc::Fc::jb::a9::Yd::ec::a12::a::qc::me::b::kd::c::Td::a20::a21::a22::a23::a24::a25::a26::fe::a28::d::He::a31::e::f::g::i::Se::a37::j::k::a40::m::o::p::q::r::a46::s::t::a49::u::a51::w::a53::x::y::z::A::B::a59::C::D::F::G::H::K::M::N::P::Q::a70::R::a72::S::T::a75::a76::U::W::X::Y):=by unfold tc at *;subst h;rfl
theorem bd {α:Type}{a0 O a2 a3 a4 a5 bc Fc jb a9 Yd ec a12 a qc me b kd c Td a20 a21 a22 a23 a24 a25 a26 fe a28 d He a31 e f g i Se a37 j k a40 m o p q r a46 s t a49 u a51 w a53 x y z A B a59 C D F G H K M N P Q a70 R a72 S T a75 a76 U W X a80 Y Z gc hc a85 lc a87 rc fd v:α}{l:List α}{n:Nat}(h:yc l n v):yc (a0::O::a2::a3::a4::a5::bc::Fc::jb::a9::Yd::ec::a12::a::qc::me::b::kd::c::Td::a20::a21::a22::a23::a24::a25::a26::fe::a28::d::He::a31::e::f::g::i::Se::a37::j::k::a40::m::o::p::q::r::a46::s::t::a49::u::a51::w::a53::x::y::z::A::B::a59::C::D::F::G::H::K::M::N::P::Q::a70::R::a72::S::T::a75::a76::U::W::X::a80::Y::Z::gc::hc::a85::lc::a87::rc::fd::l) (n+90) v:=h
theorem Wf {α:Type}{a0 O a2 a3 a4 a5 bc Fc jb a9 Yd ec a12 a qc me b kd c Td a20 a21 a22 a23 a24 a25 a26 fe a28 d He a31 e f g i Se a37 j k a40 m o p q r a46 s t a49 u a51 w a53 x y z A B a59 C D F G H K M N P Q a70 R a72 S T a75 a76 U W X a80 Y Z gc hc a85 lc a87 rc fd v:α}{l id:List α}{n:Nat}(h:tc l n v id):tc (a0::O::a2::a3::a4::a5::bc::Fc::jb::a9::Yd::ec::a12::a::qc::me::b::kd::c::Td::a20::a21::a22::a23::a24::a25::a26::fe::a28::d::He::a31::e::f::g::i::Se::a37::j::k::a40::m::o::p::q::r::a46::s::t::a49::u::a51::w::a53::x::y::z::A::B::a59::C::D::F::G::H::K::M::N::P::Q::a70::R::a72::S::T::a75::a76::U::W::X::a80::Y::Z::gc::hc::a85::lc::a87::rc::fd::l) (n+90) v (a0::O::a2::a3::a4::a5::bc::Fc::jb::a9::Yd::ec::a12::a::qc::me::b::kd::c::Td::a20::a21::a22::a23::a24::a25::a26::fe::a28::d::He::a31::e::f::g::i::Se::a37::j::k::a40::m::o::p::q::r::a46::s::t::a49::u::a51::w::a53::x::y::z::A::B::a59::C::D::F::G::H::K::M::N::P::Q::a70::R::a72::S::T::a75::a76::U::W::X::a80::Y::Z::gc::hc::a85::lc::a87::rc::fd::id):=by unfold tc at *;subst h;rfl
theorem ja {α:Type}{a0 O a2 a3 a4 a5 bc Fc jb a9 Yd ec a12 a qc me b kd c Td a20 a21 a22 a23 a24 a25 a26 fe a28 d He a31 e f g i Se a37 j k a40 m o p q r a46 s t a49 u a51 w a53 x y z A B a59 C D F G H K M N P Q a70 R a72 S T a75 a76 U W X a80 Y Z gc hc a85 lc a87 rc fd id a91 md a93 rd wd Fd Id be ce v:α}{l:List α}{n:Nat}(h:yc l n v):yc (a0::O::a2::a3::a4::a5::bc::Fc::jb::a9::Yd::ec::a12::a::qc::me::b::kd::c::Td::a20::a21::a22::a23::a24::a25::a26::fe::a28::d::He::a31::e::f::g::i::Se::a37::j::k::a40::m::o::p::q::r::a46::s::t::a49::u::a51::w::a53::x::y::z::A::B::a59::C::D::F::G::H::K::M::N::P::Q::a70::R::a72::S::T::a75::a76::U::W::X::a80::Y::Z::gc::hc::a85::lc::a87::rc::fd::id::a91::md::a93::rd::wd::Fd::Id::be::ce::l) (n+100) v:=h
theorem Ga {α:Type}{a0 O a2 a3 a4 a5 bc Fc jb a9 Yd ec a12 a qc me b kd c Td a20 a21 a22 a23 a24 a25 a26 fe a28 d He a31 e f g i Se a37 j k a40 m o p q r a46 s t a49 u a51 w a53 x y z A B a59 C D F G H K M N P Q a70 R a72 S T a75 a76 U W X a80 Y Z gc hc a85 lc a87 rc fd id a91 md a93 rd wd Fd Id be ce v:α}{l ge:List α}{n:Nat}(h:tc l n v ge):tc (a0::O::a2::a3::a4::a5::bc::Fc::jb::a9::Yd::ec::a12::a::qc::me::b::kd::c::Td::a20::a21::a22::a23::a24::a25::a26::fe::a28::d::He::a31::e::f::g::i::Se::a37::j::k::a40::m::o::p::q::r::a46::s::t::a49::u::a51::w::a53::x::y::z::A::B::a59::C::D::F::G::H::K::M::N::P::Q::a70::R::a72::S::T::a75::a76::U::W::X::a80::Y::Z::gc::hc::a85::lc::a87::rc::fd::id::a91::md::a93::rd::wd::Fd::Id::be::ce::l) (n+100) v (a0::O::a2::a3::a4::a5::bc::Fc::jb::a9::Yd::ec::a12::a::qc::me::b::kd::c::Td::a20::a21::a22::a23::a24::a25::a26::fe::a28::d::He::a31::e::f::g::i::Se::a37::j::k::a40::m::o::p::q::r::a46::s::t::a49::u::a51::w::a53::x::y::z::A::B::a59::C::D::F::G::H::K::M::N::P::Q::a70::R::a72::S::T::a75::a76::U::W::X::a80::Y::Z::gc::hc::a85::lc::a87::rc::fd::id::a91::md::a93::rd::wd::Fd::Id::be::ce::ge):=by unfold tc at *;subst h;rfl
end Go.wc
namespace Go.wc
open Go.RowKit
section
variable {P:Program}{Q:Exit→Act→World→Prop}{K:List Value→List Deferred→World→Prop}{fr V:List Value}{ds:List Deferred}{w:World}
variable {dst:Option Tmp}{ty:TypeId}{pos:String}{after:Array Edge}{g:Option (Nat×Bool)}
variable {S Od:Nat→Prop}{w0:World}{rs rs':List Fb}{A:World→Prop}
variable {T:TypeId}
inductive Bj:TypeDesc→Value→Prop where
 | str (l:List UInt8):Bj .string (wc.S l)
 | int (k:IntKind) (n:Int):Bj (.int k) (.int k n)
def pj:Value→Value→Bool
 | .string a,.string b=>decide (a.data.toList=b.data.toList)
 | .int _ a,.int _ b=>decide (a=b)
 | _,_=>false
def uk (es:List MapEntry) (k:Value):Option (Nat×Value):=(es.zipIdx.find? fun e=>pj k e.1.key).map fun e=>(e.2,e.1.val)
theorem rD {d:TypeDesc}{k:Value}(a:Bj d k):∀ (es:List MapEntry) (i:Nat),(∀ e ∈ es,Bj d e.key)→Instr.findNow d k es i=some (((es.zipIdx i).find? fun e=>pj k e.1.key).map fun e=>(e.2,e.1.val)):=by
 intro es
 induction es with
 | nil=>intro i _; simp [Instr.findNow]
 | cons e es b =>
  intro i h;have he:=h e (by simp);have c:=b (i+1) fun x f=>h x (by simp [f]);simp only [Instr.findNow,List.zipIdx_cons,List.find?_cons];have g:Instr.sameNow d k e.key=some (pj k e.key):=by
   generalize e.key=j at he;cases a with
   | str l =>
    cases he with
    | str m =>
     simp only [Instr.sameNow,wc.S,pj];congr 1;rw [Bool.eq_iff_iff,ax];simp
   | int kk n =>
    cases he with
    | int _ o =>
     simp only [Instr.sameNow,if_true,pj];congr 1
  rw [g];cases p:pj k e.key with
  | true=>simp
  | false=>exact c
theorem run_findKey {cf:TypeId}{d:TypeDesc}{k:Value}{es:List MapEntry}(a:P.underlying cf=some d) (b:Bj d k) (he:∀ e ∈ es,Bj d e.key):(Instr.findKey cf k es).run P w=.ok (uk es k) w:=by
 unfold Instr.findKey uk;simp only [Sem.run_bind,run_underlying a,Result.andThen_ok,rD b es 0 he];rfl
theorem run_checkKey {cf:TypeId}{d:TypeDesc}{k:Value}{b:Bool}(a:P.underlying cf=some d) (c:Bj d k):(Instr.checkKey b 10000 cf k).run P w=.ok () w:=by
 show (Instr.checkKey b (9999+1) cf k).run P w=_;unfold Instr.checkKey;simp only [Sem.run_bind,run_underlying a,Result.andThen_ok];cases c<;>rfl
theorem wj (a:Sep S Od w0 w rs A) (h:∀ b w',w.heap.size≤b→Sep S Od w0 w' (.map b [] 0::rs) A→Og fr dst (.map (some b)) fun V=>K V ds w'):Md P (Oper.mk dst (.makeMap T none) ty pos after g) fr ds w K Q:=by
 obtain ⟨V,rb⟩:=Ih fr dst (.map (some w.heap.size));refine bh (v:=.map (some w.heap.size)) (w':=w.alloc (.map #[] 0)) ?_ rb (h _ _ (Nat.le_refl _) (a.alloc rfl (heap_alloc_new w _)) V rb);simp [execOp,Instr.makeMap]
def gk (es:List MapEntry) (k z:Value):Value:=(uk es k).elim z (·.2)
def Ho (es:List MapEntry) (k:Value):Bool:=(uk es k).isSome
def putAt (es:List MapEntry) (c:Nat) (k v:Value):List MapEntry:=match uk es k with
 | some (i,_)=>es.modify i fun e=>{ e with key:=k,val:=v }
 | none=>es++[{ key:=k,val:=v,born:=c }]
def Vl (es:List MapEntry) (c:Nat) (k:Value):Nat:=match uk es k with
 | some _=>c
 | none=>c+1
theorem sD {es:List MapEntry}{k v:Value}{i:Nat}(h:uk es k=some (i,v)):∃ e,es[i]?=some e∧pj k e.key=true∧e.val=v:=by
 unfold uk at h;cases a:es.zipIdx.find? fun e=>pj k e.1.key with
 | none=>rw [a] at h; cases h
 | some x =>
  rw [a] at h;simp only [Option.map_some,Option.some.injEq,Prod.mk.injEq] at h;obtain ⟨rfl,rfl⟩:=h;have b:=List.find?_some (p:=fun e:MapEntry×Nat=>pj k e.1.key) a;have c:=List.mem_of_find?_eq_some a;exact ⟨x.1,by have:=List.mem_zipIdx_iff_getElem?.1 c;simpa using this,b,rfl⟩
theorem dE {d:TypeDesc}{k a:Value}(c:Bj d k) (b:Bj d a) (h:pj k a=true):Instr.sameBits 10000 a k=true:=by
 cases c with
 | str l =>
  cases b with
  | str e =>
   simp [pj,wc.S] at h;subst h;simp only [Instr.sameBits,wc.S];exact (ax _ _).2 rfl
 | int kk n =>
  cases b with
  | int _ f =>
   simp [pj] at h;subst h;simp [Instr.sameBits]
theorem zB {x y z:Operand}{cf aa:TypeId}{d:TypeDesc}{Ff v:Value}{b c k:Nat}{es:List MapEntry}(m:P.underlying T=some (.map cf aa)) (n:P.underlying cf=some d) (o:pb fr x (.map (some b))) (p:pb fr y Ff) (a:Bj d Ff) (q:pb fr z v)
  (r:Sep S Od w0 w rs A) (s:yc rs k (.map b es c)) (he:∀ e ∈ es,Bj d e.key)
  (rb:rf fr dst undef V) (h:∀ w' rs',tc rs k (.map b (putAt es c Ff v) (Vl es c Ff)) rs'→Sep S Od w0 w' rs' A→K V ds w'):Md P (Oper.mk dst (.mapUpdate T x y z) ty pos after g) fr ds w K Q:=by
 have f:w.heap[b]?=some (.map ⟨es⟩ c):=r.get s;have D:b<w.heap.size:=(Array.getElem?_eq_some_iff.1 f).1
 let w':World:={ w with heap:=w.heap.setIfInBounds b (.map ⟨putAt es c Ff v⟩ (Vl es c Ff)) }
 have F:di (fun k=>k≠b) w w':=⟨rfl,rfl,rfl,by simp [w'],fun j _ G=>by simp [w',Array.getElem?_setIfInBounds,Ne.symm G]⟩;have H:=r.put (b:=b) (r':=.map b (putAt es c Ff v) (Vl es c Ff)) (w':=w') s rfl rfl rfl (by show w'.heap[b]?=_;simp [w',D]) F;have t:=run_checkKey (P:=P) (w:=w) (b:=false) n a;have B:=run_findKey (P:=P) (w:=w) n a he;refine Oy (w':=w') ?_ rb (h w' _ rfl H);cases l:uk es Ff with
 | none=>simp [execOp,o ds,p ds,q ds,Instr.mapUpdate,run_underlying m,getObj,setObj,Sem.run,f,Result.andThen,t,B,l,w',putAt,Vl]
 | some e =>
  obtain ⟨i,u⟩:=e;obtain ⟨e,C,M,-⟩:=sD l;have N:=dE a (he e (List.mem_of_getElem? C)) M;simp [execOp,o ds,p ds,q ds,Instr.mapUpdate,run_underlying m,getObj,setObj,Sem.run,f,Result.andThen,t,B,l,C,Instr.keyThatStays,N,w',putAt,Vl]
theorem FE {x:Operand}{cf aa:TypeId}{m c k:Nat}{es:List MapEntry}(d:P.underlying T=some (.map cf aa)) (e:pb fr x (.map (some m))) (a:Sep S Od w0 w rs A) (f:yc rs k (.map m es c))
  (h:∀ b w',w.heap.size≤b→Sep S Od w0 w' (.hj b m c [] c::rs) A→Og fr dst (.pointer (some ⟨b,0,none⟩)) fun V=>K V ds w'):Md P (Oper.mk dst (.range T x) ty pos after g) fr ds w K Q:=by
 have i:w.heap[m]?=some (.map ⟨es⟩ c):=a.get f;obtain ⟨V,rb⟩:=Ih fr dst (.pointer (some ⟨w.heap.size,0,none⟩));refine bh (v:=.pointer (some ⟨w.heap.size,0,none⟩)) (w':=w.alloc (.mapIter (some m) c #[] c)) ?_ rb (h _ _ (Nat.le_refl _) (a.alloc rfl (heap_alloc_new w _)) V rb);simp [execOp,e ds,Instr.range,run_underlying d,getObj,Sem.run,i,Result.andThen]
end
end Go.wc
namespace Go.hd
open Go.wc Go.RowKit
section
variable {P:Program}{Q:Exit→Act→World→Prop}{K:List Value→List Deferred→World→Prop}{fr V:List Value}{ds:List Deferred}{w:World}
variable {dst:Option Tmp}{ty:TypeId}{pos:String}{after:Array Edge}{g:Option (Nat×Bool)}
variable {w0:World}{rs rs':List Fb}{μ I:M}
variable {T:TypeId}{d:TypeDesc}{Ef:Bool}{Ed:List Value}{n m:Nat}
theorem ZA {x y:Operand}{cf aa:TypeId}{d:TypeDesc}{Ff z:Value}{b c:Nat}{es:List MapEntry}(a:P.underlying T=some (.map cf aa)) (f:P.underlying cf=some d) (i:pb fr x (.map (some b))) (j:pb fr y Ff) (k:Bj d Ff)
  (p:∀ w,(zeroValue aa).run P w=.ok z w) (l:w.heap[b]?=some (.map ⟨es⟩ c)) (he:∀ e ∈ es,Bj d e.key)
  (q:rf fr dst (gk es Ff z) V) (h:K V ds w):Md P (Oper.mk dst (.lookup T x y false) ty pos after g) fr ds w K Q:=by
 refine bh (w':=w) ?_ q h;have m:=run_checkKey (w:=w) (b:=es.isEmpty) f k;have n:=run_findKey (w:=w) f k he;cases o:uk es Ff with
 | none=>simp [execOp,i ds,j ds,Instr.lookup,run_underlying a,getObj,Sem.run,l,Result.andThen,m,n,o,p w,gk]
 | some e=>simp [execOp,i ds,j ds,Instr.lookup,run_underlying a,getObj,Sem.run,l,Result.andThen,m,n,o,gk]
theorem BA {x y:Operand}{cf aa:TypeId}{d:TypeDesc}{Ff z:Value}{b c:Nat}{es:List MapEntry}(a:P.underlying T=some (.map cf aa)) (f:P.underlying cf=some d) (i:pb fr x (.map (some b))) (j:pb fr y Ff) (k:Bj d Ff)
  (p:∀ w,(zeroValue aa).run P w=.ok z w) (l:w.heap[b]?=some (.map ⟨es⟩ c)) (he:∀ e ∈ es,Bj d e.key)
  (q:rf fr dst (.tuple #[gk es Ff z,.bool (Ho es Ff)]) V) (h:K V ds w):Md P (Oper.mk dst (.lookup T x y true) ty pos after g) fr ds w K Q:=by
 refine bh (w':=w) ?_ q h;have m:=run_checkKey (w:=w) (b:=es.isEmpty) f k;have n:=run_findKey (w:=w) f k he;cases o:uk es Ff with
 | none=>simp [execOp,i ds,j ds,Instr.lookup,run_underlying a,getObj,Sem.run,l,Result.andThen,m,n,o,p w,gk,Ho]
 | some e=>simp [execOp,i ds,j ds,Instr.lookup,run_underlying a,getObj,Sem.run,l,Result.andThen,m,n,o,gk,Ho]
class xb (κ:Type) [DecidableEq κ] where
 key:κ→Value
 yl:TypeDesc
 cf:∀ k,Bj yl (key k)
 eq:∀ a b,pj (key a) (key b)=decide (a=b)
instance:xb (List UInt8) where
 key:=S
 yl:=.string
 cf:=.str
 eq a b:=by simp [pj,S]
instance:xb Int where
 key n:=.int .i64 n
 yl:=.int .i64
 cf:=.int .i64
 eq a b:=by simp [pj]
class Fh (β:Type) where
 jj:M→Value→β→Prop
 up:∀ {μ I:M}{v:Value}{x:β},ga μ I→jj μ v x→jj I v x
instance:Fh Int where
 jj _ v x:=v=.int .i64 x
 up _ h:=h
def Pm {α:Type}[Ta α] (μ:M) (v:Value) (x:α):Prop:=∃ cs,v=.agg ⟨cs⟩∧Ta.cs μ cs x
theorem Pm.up {α:Type}[Ta α]{v:Value}{x:α}(l:ga μ I) (h:Pm μ v x):Pm I v x:=by
 obtain ⟨cs,a,b⟩:=h;exact ⟨cs,a,Ta.up l b⟩
def dm {α:Type}[Ta α] (μ:M) (v:Value) (x:α):Prop:=∃ b o cs,v=.pointer (some ⟨b,o,none⟩)∧uc μ b o cs∧Ta.cs μ cs x
theorem dm.up {α:Type}[Ta α]{v:Value}{x:α}(l:ga μ I) (h:dm μ v x):dm I v x:=by
 obtain ⟨b,o,cs,a,c,d⟩:=h;exact ⟨b,o,cs,a,c.up l,Ta.up l d⟩
def Ke {α:Type}[Ta α] (μ:M) (v:Value):Option α→Prop
 | none=>v=.pointer none
 | some x=>dm μ v x
theorem Ke.up {α:Type}[Ta α]{v:Value}{x:Option α}(h:Ke μ v x) (l:ga μ I):Ke I v x:=by
 cases x with
 | none=>exact h
 | some x=>exact dm.up l h
theorem Ke.Kd {α:Type}[Ta α]{v:Value}{x:Option α}(h:Ke μ v x):Kd v=true:=by
 cases x with
 | none=>rw [show v=.pointer none from h]; rfl
 | some x=>obtain ⟨b,o,cs,rfl,-⟩:=h; rfl
theorem Ke.of {α:Type}[Ta α]{b o:Nat}{cs:List Value}{x:α}(h:uc μ b o cs) (k:Ta.cs μ cs x):Ke μ (.pointer (some ⟨b,o,none⟩)) (some x):=⟨b,o,cs,rfl,h,k⟩
theorem Ke.get {α:Type}[Ta α]{v:Value}{o:Option α}{x:α}(h:Ke μ v o) (g:o=some x):∃ b o cs,v=.pointer (some ⟨b,o,none⟩)∧uc μ b o cs∧Ta.cs μ cs x:=by
 subst g;exact h
instance {α:Type}[Ta α]:Ta (Option α) where
 sz:=1
 pos:=by decide
 cs μ l x:=∃ v,l=[v]∧Ke μ v x
 nh h:=by obtain ⟨v,rfl,-⟩:=h;rfl
 up l h:=by obtain ⟨v,a,b⟩:=h;exact ⟨v,a,b.up l⟩
 Rg h:=by obtain ⟨v,rfl,h⟩:=h;simp [h.Kd]
def mf {κ β:Type}[DecidableEq κ]:List (κ×β)→κ→Option β
 | [],_=>none
 | (a,b)::m,k=>if a=k then some b else mf m k
def xe {κ β:Type}[DecidableEq κ]:List (κ×β)→κ→β→List (κ×β)
 | [],k,x=>[(k,x)]
 | (a,b)::m,k,x=>if a=k then (k,x)::m else (a,b)::xe m k x
def pf {κ β:Type}[DecidableEq κ] [xb κ] [Fh β] (μ:M):List MapEntry→List (κ×β)→Prop
 | [],m=>m=[]
 | e::es,m=>∃ k x t,m=(k,x)::t∧e.key=xb.key k∧Fh.jj μ e.val x∧pf μ es t
structure Dd {κ β:Type}[DecidableEq κ] [xb κ] [Fh β] (μ:M) (es:List MapEntry) (c:Nat) (m:List (κ×β)):Prop where
 Ff:pf μ es m
 lt:∀ e ∈ es,e.born<c
 inc:es.Pairwise fun a b=>a.born<b.born
variable {κ β:Type}[DecidableEq κ] [xb κ] [Fh β]
theorem pf.up (l:ga μ I):∀ {es:List MapEntry}{m:List (κ×β)},pf μ es m→pf I es m
 | [],m,h=>by rw [pf] at h ⊢; exact h
 | e::es,m,h=>by
  rw [pf] at h ⊢;obtain ⟨k,x,t,a,b,c,d⟩:=h;exact ⟨k,x,t,a,b,Fh.up l c,pf.up l d⟩
theorem Dd.up {es:List MapEntry}{c:Nat}{m:List (κ×β)}(h:Dd μ es c m) (l:ga μ I):Dd I es c m:=⟨h.Ff.up l,h.lt,h.inc⟩
theorem pf.keys:∀ {es:List MapEntry}{m:List (κ×β)},pf μ es m→∀ e ∈ es,Bj (xb.yl (κ:=κ)) e.key
 | [],m,_,e,he=>by cases he
 | e::es,m,h,a,he=>by
  rw [pf] at h;obtain ⟨k,x,t,d,b,f,c⟩:=h;rcases List.mem_cons.1 he with rfl | he
  ·rw [b];exact xb.cf k
  ·exact pf.keys c a he
theorem pf.len:∀ {es:List MapEntry}{m:List (κ×β)},pf μ es m→es.length=m.length
 | [],m,h=>by rw [pf] at h; simp [h]
 | e::es,m,h=>by
  rw [pf] at h;obtain ⟨k,x,t,rfl,b,c,a⟩:=h;simp [pf.len a]
def Tj (Ff:Value):List MapEntry→Option (Nat×Value)
 | []=>none
 | e::es=>if pj Ff e.key then some (0,e.val) else (Tj Ff es).map fun p=>(p.1+1,p.2)
theorem aB (Ff:Value):∀ (es:List MapEntry) (i:Nat),(((es.zipIdx i).find? fun e=>pj Ff e.1.key).map fun e=>(e.2,e.1.val))=(Tj Ff es).map fun p=>(p.1+i,p.2)
 | [],i=>rfl
 | e::es,i=>by
  rw [List.zipIdx_cons,List.find?_cons,Tj];cases h:pj Ff e.key with
  | true=>simp
  | false =>
   simp only [Bool.false_eq_true,if_false];rw [aB Ff es (i+1),Option.map_map];congr 1;funext p;simp;omega
theorem Kt (es:List MapEntry) (Ff:Value):uk es Ff=Tj Ff es:=by
 unfold uk;rw [aB];cases Tj Ff es<;>simp
theorem pf.look:∀ {es:List MapEntry}{m:List (κ×β)},pf μ es m→∀ k:κ,(match Tj (xb.key k) es with | none=>mf m k=none | some p=>∃ x,mf m k=some x∧Fh.jj μ p.2 x)
 | [],m,h,k=>by rw [pf] at h; subst h; rfl
 | e::es,m,h,k=>by
  rw [pf] at h;obtain ⟨d,x,t,rfl,f,g,i⟩:=h;rw [Tj,mf,f,xb.eq];have a:=pf.look i k;by_cases b:k=d
  ·subst b;simp;exact g
  ·rw [if_neg (by simpa using b),if_neg (fun e=>b e.symm)];cases c:Tj (xb.key k) es with
   | none=>rw [c] at a; exact a
   | some p=>rw [c] at a; exact a
theorem pf.get {es:List MapEntry}{m:List (κ×β)}(h:pf μ es m) (k:κ){z:Value}{zx:β}(b:Fh.jj μ z zx):Fh.jj μ (gk es (xb.key k) z) ((mf m k).getD zx):=by
 have:=h.look k;unfold gk;rw [Kt];cases a:Tj (xb.key k) es with
 | none=>rw [a] at this; simp only at this; rw [this]; exact b
 | some p=>rw [a] at this; obtain ⟨x,c,d⟩:=this; rw [c]; exact d
theorem pf.has {es:List MapEntry}{m:List (κ×β)}(h:pf μ es m) (k:κ):Ho es (xb.key k)=(mf m k).isSome:=by
 have:=h.look k;unfold Ho;rw [Kt];cases a:Tj (xb.key k) es with
 | none=>rw [a] at this; simp only at this; rw [this]; rfl
 | some p=>rw [a] at this; obtain ⟨x,b,c⟩:=this; rw [b]; rfl
theorem pf.put:∀ {es:List MapEntry}{m:List (κ×β)},pf μ es m→∀ (k:κ){v:Value}{x:β},Fh.jj μ v x→∀ c,pf μ (match Tj (xb.key k) es with | some (i,_)=>es.modify i fun e=>{ e with key:=xb.key k,val:=v } | none=>es++[{ key:=xb.key k,val:=v,born:=c }]) (xe m k x)
 | [],m,h,k,v,x,a,c=>by
  rw [pf] at h;subst h;exact ⟨k,x,[],rfl,rfl,a,rfl⟩
 | e::es,m,h,k,v,x,a,c=>by
  rw [pf] at h;obtain ⟨d,j,t,rfl,f,l,n⟩:=h;rw [Tj,xe,f,xb.eq];have b:=pf.put n k a c;by_cases g:k=d
  ·subst g;simp;exact ⟨k,x,t,rfl,rfl,a,n⟩
  ·rw [if_neg (by simpa using g),if_neg (fun e=>g e.symm)];cases o:Tj (xb.key k) es with
   | none=>rw [o] at b; exact ⟨d,j,_,rfl,f,l,b⟩
   | some p=>rw [o] at b; exact ⟨d,j,_,rfl,f,l,b⟩
theorem Dd.put {es:List MapEntry}{c:Nat}{m:List (κ×β)}(h:Dd μ es c m) (k:κ){v:Value}{x:β}(o:Fh.jj μ v x):Dd μ (putAt es c (xb.key k) v) (Vl es c (xb.key k)) (xe m k x):=by
 have d:=h.Ff.put k o c;have qa:∀ i,(es.modify i fun e=>{ e with key:=xb.key k,val:=v }).map (·.born)=es.map (·.born):=by
  intro i;refine List.ext_getElem (by simp) fun j y z=>?_;simp only [List.getElem_map,List.getElem_modify];split<;>rfl
 have q:∀ l:List MapEntry,l.map (·.born)=es.map (·.born)→∀ e ∈ l,e.born<c:=fun l g e he=>by
  have hm:e.born ∈ es.map (·.born):=g ▸ List.mem_map_of_mem he;obtain ⟨r,s,f⟩:=List.mem_map.1 hm;rw [← f];exact h.lt r s
 have t:∀ l:List MapEntry,l.map (·.born)=es.map (·.born)→l.Pairwise fun a b=>a.born<b.born:=fun l g=>by
  have:(es.map (·.born)).Pairwise (·<·):=List.pairwise_map.2 h.inc;rw [← g] at this;exact List.pairwise_map.1 this
 unfold putAt Vl;rw [Kt];cases n:Tj (xb.key k) es with
 | some p =>
  obtain ⟨i,u⟩:=p;rw [n] at d;exact ⟨d,q _ (qa i),t _ (qa i)⟩
 | none =>
  rw [n] at d;refine ⟨d,fun e he=>?_,?_⟩
  ·rcases List.mem_append.1 he with he | he
   ·exact Nat.lt_succ_of_lt (h.lt e he)
   ·simp at he;subst he;exact Nat.lt_succ_self _
  ·rw [List.pairwise_append];refine ⟨h.inc,by simp,fun a w b f=>?_⟩;simp at f;subst f;exact h.lt a w
theorem Dd.nil {c:Nat}:Dd (κ:=κ) (β:=β) μ [] c []:=⟨rfl,by simp,by simp⟩
def Sf (μ:M) (b:Nat) (m:List (κ×β)):Prop:=∃ es c,(∀ w,μ w→w.heap[b]?=some (.map ⟨es⟩ c))∧Dd μ es c m
theorem Sf.up {b:Nat}{m:List (κ×β)}(h:Sf μ b m) (l:ga μ I):Sf I b m:=by
 obtain ⟨es,c,a,d⟩:=h;exact ⟨es,c,fun w hw=>a w (l w hw),d.up l⟩
theorem _root_.Go.wc.Sep.Bm {b c:Nat}{es:List MapEntry}{m:List (κ×β)}(h:la μ w0 w (.map b es c::rs)) (hm:Dd μ es c m):∃ I,ga μ I∧Sf I b m∧la I w0 w rs :=
 ⟨_,fun _ hw=>hw.1,⟨es,c,fun _ hw=>hw.2,hm.up fun _ hw=>hw.1⟩,Sep.sv (B:=fun w=>w.heap[b]?=some (.map ⟨es⟩ c)) h fun _ hw=>hw⟩
theorem Cx {x y:Operand}{cf aa:TypeId}{z:Value}{b c:Nat}{es:List MapEntry}{m:List (κ×β)}{k:κ}{zx:β}(a:P.underlying T=some (.map cf aa)) (d:P.underlying cf=some (xb.yl (κ:=κ))) (e:pb fr x (.map (some b))) (f:pb fr y (xb.key k))
  (i:∀ w,(zeroValue aa).run P w=.ok z w) (j:Fh.jj μ z zx) (l:w.heap[b]?=some (.map ⟨es⟩ c)) (he:Dd μ es c m)
  (h:∀ v,Fh.jj μ v ((mf m k).getD zx)→Og fr dst (.tuple #[v,.bool (mf m k).isSome]) fun V=>K V ds w):Md P (Oper.mk dst (.lookup T x y true) ty pos after g) fr ds w K Q:=by
 obtain ⟨V,rb⟩:=Ih fr dst (.tuple #[gk es (xb.key k) z,.bool (Ho es (xb.key k))]);refine BA a d e f (xb.cf k) i l he.Ff.keys rb ?_;rw [he.Ff.has k] at rb;exact h _ (he.Ff.get k j) V rb
theorem xm {x y:Operand}{cf aa:TypeId}{z:Value}{b c:Nat}{es:List MapEntry}{m:List (κ×β)}{k:κ}{zx:β}(a:P.underlying T=some (.map cf aa)) (d:P.underlying cf=some (xb.yl (κ:=κ))) (e:pb fr x (.map (some b))) (f:pb fr y (xb.key k))
  (i:∀ w,(zeroValue aa).run P w=.ok z w) (j:Fh.jj μ z zx) (l:w.heap[b]?=some (.map ⟨es⟩ c)) (he:Dd μ es c m)
  (h:∀ v,Fh.jj μ v ((mf m k).getD zx)→Og fr dst v fun V=>K V ds w):Md P (Oper.mk dst (.lookup T x y false) ty pos after g) fr ds w K Q:=by
 obtain ⟨V,rb⟩:=Ih fr dst (gk es (xb.key k) z);refine ZA a d e f (xb.cf k) i l he.Ff.keys rb ?_;exact h _ (he.Ff.get k j) V rb
theorem pf.gC {α:Type}[Ta α] [Fh α] (hrv:∀ (v:Value) (x:α),Fh.jj μ v x→dm μ v x){es:List MapEntry}{m:List (κ×α)}(h:pf μ es m) (k:κ):Ke μ (gk es (xb.key k) (.pointer none)) (mf m k):=by
 have:=h.look k;unfold gk;rw [Kt];cases a:Tj (xb.key k) es with
 | none=>rw [a] at this; simp only at this; rw [this]; rfl
 | some p=>rw [a] at this; obtain ⟨x,b,c⟩:=this; rw [b]; exact hrv _ _ c
theorem CA {α:Type}[Ta α] [Fh α] (hrv:∀ (v:Value) (x:α),Fh.jj μ v x→dm μ v x){x y:Operand}{cf aa:TypeId}{b c:Nat}{es:List MapEntry}{m:List (κ×α)}{k:κ}(a:P.underlying T=some (.map cf aa)) (d:P.underlying cf=some (xb.yl (κ:=κ))) (e:pb fr x (.map (some b))) (f:pb fr y (xb.key k))
  (i:∀ w,(zeroValue aa).run P w=.ok (.pointer none) w) (j:w.heap[b]?=some (.map ⟨es⟩ c)) (he:Dd μ es c m)
  (h:∀ v,Ke μ v (mf m k)→Og fr dst (.tuple #[v,.bool (mf m k).isSome]) fun V=>K V ds w):Md P (Oper.mk dst (.lookup T x y true) ty pos after g) fr ds w K Q:=by
 obtain ⟨V,rb⟩:=Ih fr dst (.tuple #[gk es (xb.key k) (.pointer none),.bool (Ho es (xb.key k))]);refine BA a d e f (xb.cf k) i j he.Ff.keys rb ?_;rw [he.Ff.has k] at rb;exact h _ (he.Ff.gC hrv k) V rb
theorem Ep {α:Type}[Ta α] [Fh α] (hrv:∀ (v:Value) (x:α),Fh.jj μ v x→dm μ v x){x y:Operand}{cf aa:TypeId}{b c:Nat}{es:List MapEntry}{m:List (κ×α)}{k:κ}(a:P.underlying T=some (.map cf aa)) (d:P.underlying cf=some (xb.yl (κ:=κ))) (e:pb fr x (.map (some b))) (f:pb fr y (xb.key k))
  (i:∀ w,(zeroValue aa).run P w=.ok (.pointer none) w) (j:w.heap[b]?=some (.map ⟨es⟩ c)) (he:Dd μ es c m)
  (h:∀ v,Ke μ v (mf m k)→Og fr dst v fun V=>K V ds w):Md P (Oper.mk dst (.lookup T x y false) ty pos after g) fr ds w K Q:=by
 obtain ⟨V,rb⟩:=Ih fr dst (gk es (xb.key k) (.pointer none));refine ZA a d e f (xb.cf k) i j he.Ff.keys rb ?_;exact h _ (he.Ff.gC hrv k) V rb
theorem vr {aa:TypeId}{z:Value}(h:(P.info? aa).map (fun i=>i.zero)=some (some z)):∀ w,(zeroValue aa).run P w=.ok z w:=fun w=>by
 cases cb:P.info? aa with
 | none=>rw [cb] at h; cases h
 | some i =>
  rw [cb] at h;simp only [Option.map_some,Option.some.injEq] at h;simp [zeroValue,typeInfo,cb,h]
theorem mn {x y z:Operand}{cf aa:TypeId}{v:Value}{b c k:Nat}{es:List MapEntry}{kk:κ}{m:List (κ×β)}{xx:β}(d:P.underlying T=some (.map cf aa)) (e:P.underlying cf=some (xb.yl (κ:=κ))) (f:pb fr x (.map (some b))) (i:pb fr y (xb.key kk)) (j:pb fr z v) (l:Fh.jj μ v xx)
  (n:la μ w0 w rs) (o:yc rs k (.map b es c)) (he:Dd μ es c m)
  (rb:rf fr dst undef V) (h:∀ a c' w' rs',Dd μ a c' (xe m kk xx)→tc rs k (.map b a c') rs'→la μ w0 w' rs'→K V ds w'):Md P (Oper.mk dst (.mapUpdate T x y z) ty pos after g) fr ds w K Q :=
 zB d e f i (xb.cf kk) j n o he.Ff.keys rb fun w' rs'=>h _ _ w' rs' (he.put kk l)
theorem Pj {x y z:Operand}{cf aa:TypeId}{v:Value}{b c k:Nat}{es:List MapEntry}{kk:κ}{m:List (κ×β)}{xx:β}(d:P.underlying T=some (.map cf aa)) (e:P.underlying cf=some (xb.yl (κ:=κ))) (f:pb fr x (.map (some b))) (i:pb fr y (xb.key kk)) (j:pb fr z v) (l:Fh.jj μ v xx)
  (n:la μ w0 w rs) (o:yc rs k (.map b es c)) (he:Dd μ es c m)
  (rb:rf fr dst undef V) (h:∀ a c' w' rs',Dd μ a c' (xe m kk xx)→tc rs k (.map b a c') rs'→la μ w0 w' rs'→K V ds w'):Md P (Oper.mk dst (.insert T x y z) ty pos after g) fr ds w K Q :=
 ⟨fun p q=>(mn (dst:=dst) (ty:=ty) (pos:=pos) (after:=after) (g:=g) d e f i j l n o he rb h).out p q⟩
theorem AB {x:Operand}{cf aa:TypeId}{b c:Nat}{es:List MapEntry}{m:List (κ×β)}(a:P.underlying T=some (.map cf aa)) (d:pb fr x (.map (some b))) (e:w.heap[b]?=some (.map ⟨es⟩ c)) (he:Dd μ es c m)
  (f:rf fr dst (.int .i64 m.length) V) (h:K V ds w):Md P (Oper.mk dst (.call { callee:=.builtin .len,args:=#[x],argTypes:=#[T] }) ty pos after g) fr ds w K Q:=by
 refine bh (w':=w) ?_ f h;have:=he.Ff.len;simp [execOp,resolve,invoke,builtin,Builtin.len_,goInt,d ds,run_underlying a,getObj,Sem.run,e,Result.andThen,this]
end
end Go.hd
namespace Go.wc
abbrev uh (m:List xb):List xb:=.k::m
abbrev Hd (s:Nat) (m:List xb):List xb:=.o s::m
theorem hf {m:List xb}{a0:Value}{l a:List Value}(h:Ie m l a):Ie (uh m) (a0::l) (a0::a):=(.k h)
theorem db {m:List xb}{s:Nat}{a0 b:Value}{l a:List Value}(h:Ie m l a):Ie (Hd s m) (a0::l) (b::a):=(.o h)
theorem Mh {t:Nat→Value}{m:List xb}{a0:Value}{l a:List Value}(h:Ye t m l a):Ye t (uh m) (a0::l) (a0::a):=(mk h)
theorem Pd {t:Nat→Value}{m:List xb}{s:Nat}{a0:Value}{l a:List Value}(h:Ye t m l a):Ye t (Hd s m) (a0::l) (t s::a):=(Jc h)
abbrev cg (m:List xb):List xb:=.k::.k::m
abbrev Pf (s:Nat) (m:List xb):List xb:=.o s::.o (s+1)::m
theorem cd {m:List xb}{a0 O:Value}{l a:List Value}(h:Ie m l a):Ie (cg m) (a0::O::l) (a0::O::a):=(.k (.k h))
theorem Cc {m:List xb}{s:Nat}{a0 O b L:Value}{l a:List Value}(h:Ie m l a):Ie (Pf s m) (a0::O::l) (b::L::a):=(.o (.o h))
theorem kg {t:Nat→Value}{m:List xb}{a0 O:Value}{l a:List Value}(h:Ye t m l a):Ye t (cg m) (a0::O::l) (a0::O::a):=(mk (mk h))
theorem Xf {t:Nat→Value}{m:List xb}{s:Nat}{a0 O:Value}{l a:List Value}(h:Ye t m l a):Ye t (Pf s m) (a0::O::l) (t s::t (s+1)::a):=(Jc (Jc h))
abbrev zg (m:List xb):List xb:=.k::.k::.k::m
abbrev Di (s:Nat) (m:List xb):List xb:=.o s::.o (s+1)::.o (s+2)::m
theorem dd {m:List xb}{a0 O a2:Value}{l a:List Value}(h:Ie m l a):Ie (zg m) (a0::O::a2::l) (a0::O::a2::a):=(.k (.k (.k h)))
theorem fg {m:List xb}{s:Nat}{a0 O a2 b L c:Value}{l a:List Value}(h:Ie m l a):Ie (Di s m) (a0::O::a2::l) (b::L::c::a):=(.o (.o (.o h)))
theorem Dg {t:Nat→Value}{m:List xb}{a0 O a2:Value}{l a:List Value}(h:Ye t m l a):Ye t (zg m) (a0::O::a2::l) (a0::O::a2::a):=(mk (mk (mk h)))
theorem Ri {t:Nat→Value}{m:List xb}{s:Nat}{a0 O a2:Value}{l a:List Value}(h:Ye t m l a):Ye t (Di s m) (a0::O::a2::l) (t s::t (s+1)::t (s+2)::a):=(Jc (Jc (Jc h)))
abbrev Bg (m:List xb):List xb:=.k::.k::.k::.k::m
abbrev Wh (s:Nat) (m:List xb):List xb:=.o s::.o (s+1)::.o (s+2)::.o (s+3)::m
theorem Ld {m:List xb}{a0 O a2 a3:Value}{l a:List Value}(h:Ie m l a):Ie (Bg m) (a0::O::a2::a3::l) (a0::O::a2::a3::a):=(.k (.k (.k (.k h))))
theorem we {m:List xb}{s:Nat}{a0 O a2 a3 b L c Pa:Value}{l a:List Value}(h:Ie m l a):Ie (Wh s m) (a0::O::a2::a3::l) (b::L::c::Pa::a):=(.o (.o (.o (.o h))))
theorem Hg {t:Nat→Value}{m:List xb}{a0 O a2 a3:Value}{l a:List Value}(h:Ye t m l a):Ye t (Bg m) (a0::O::a2::a3::l) (a0::O::a2::a3::a):=(mk (mk (mk (mk h))))
theorem si {t:Nat→Value}{m:List xb}{s:Nat}{a0 O a2 a3:Value}{l a:List Value}(h:Ye t m l a):Ye t (Wh s m) (a0::O::a2::a3::l) (t s::t (s+1)::t (s+2)::t (s+3)::a):=(Jc (Jc (Jc (Jc h))))
abbrev gg (m:List xb):List xb:=.k::.k::.k::.k::.k::m
abbrev vl (s:Nat) (m:List xb):List xb:=.o s::.o (s+1)::.o (s+2)::.o (s+3)::.o (s+4)::m
theorem Yb {m:List xb}{a0 O a2 a3 a4:Value}{l a:List Value}(h:Ie m l a):Ie (gg m) (a0::O::a2::a3::a4::l) (a0::O::a2::a3::a4::a):=(.k (.k (.k (.k (.k h)))))
theorem Ej {m:List xb}{s:Nat}{a0 O a2 a3 a4 b L c Pa vf:Value}{l a:List Value}(h:Ie m l a):Ie (vl s m) (a0::O::a2::a3::a4::l) (b::L::c::Pa::vf::a):=(.o (.o (.o (.o (.o h)))))
theorem og {t:Nat→Value}{m:List xb}{a0 O a2 a3 a4:Value}{l a:List Value}(h:Ye t m l a):Ye t (gg m) (a0::O::a2::a3::a4::l) (a0::O::a2::a3::a4::a):=(mk (mk (mk (mk (mk h)))))
theorem Lm {t:Nat→Value}{m:List xb}{s:Nat}{a0 O a2 a3 a4:Value}{l a:List Value}(h:Ye t m l a):Ye t (vl s m) (a0::O::a2::a3::a4::l) (t s::t (s+1)::t (s+2)::t (s+3)::t (s+4)::a):=(Jc (Jc (Jc (Jc (Jc h)))))
abbrev vh (m:List xb):List xb:=.k::.k::.k::.k::.k::.k::m
abbrev Uj (s:Nat) (m:List xb):List xb:=.o s::.o (s+1)::.o (s+2)::.o (s+3)::.o (s+4)::.o (s+5)::m
theorem se {m:List xb}{a0 O a2 a3 a4 a5:Value}{l a:List Value}(h:Ie m l a):Ie (vh m) (a0::O::a2::a3::a4::a5::l) (a0::O::a2::a3::a4::a5::a):=(.k (.k (.k (.k (.k (.k h))))))
theorem pg {m:List xb}{s:Nat}{a0 O a2 a3 a4 a5 b L c Pa vf eg:Value}{l a:List Value}(h:Ie m l a):Ie (Uj s m) (a0::O::a2::a3::a4::a5::l) (b::L::c::Pa::vf::eg::a):=(.o (.o (.o (.o (.o (.o h))))))
theorem Nh {t:Nat→Value}{m:List xb}{a0 O a2 a3 a4 a5:Value}{l a:List Value}(h:Ye t m l a):Ye t (vh m) (a0::O::a2::a3::a4::a5::l) (a0::O::a2::a3::a4::a5::a):=(mk (mk (mk (mk (mk (mk h))))))
theorem Ck {t:Nat→Value}{m:List xb}{s:Nat}{a0 O a2 a3 a4 a5:Value}{l a:List Value}(h:Ye t m l a):Ye t (Uj s m) (a0::O::a2::a3::a4::a5::l) (t s::t (s+1)::t (s+2)::t (s+3)::t (s+4)::t (s+5)::a):=(Jc (Jc (Jc (Jc (Jc (Jc h))))))
abbrev Mi (m:List xb):List xb:=.k::.k::.k::.k::.k::.k::.k::m
abbrev qj (s:Nat) (m:List xb):List xb:=.o s::.o (s+1)::.o (s+2)::.o (s+3)::.o (s+4)::.o (s+5)::.o (s+6)::m
theorem hg {m:List xb}{a0 O a2 a3 a4 a5 bc:Value}{l a:List Value}(h:Ie m l a):Ie (Mi m) (a0::O::a2::a3::a4::a5::bc::l) (a0::O::a2::a3::a4::a5::bc::a):=(.k (.k (.k (.k (.k (.k (.k h)))))))
theorem Xg {m:List xb}{s:Nat}{a0 O a2 a3 a4 a5 bc b L c Pa vf eg Tf:Value}{l a:List Value}(h:Ie m l a):Ie (qj s m) (a0::O::a2::a3::a4::a5::bc::l) (b::L::c::Pa::vf::eg::Tf::a):=(.o (.o (.o (.o (.o (.o (.o h)))))))
theorem cj {t:Nat→Value}{m:List xb}{a0 O a2 a3 a4 a5 bc:Value}{l a:List Value}(h:Ye t m l a):Ye t (Mi m) (a0::O::a2::a3::a4::a5::bc::l) (a0::O::a2::a3::a4::a5::bc::a):=(mk (mk (mk (mk (mk (mk (mk h)))))))
theorem Mj {t:Nat→Value}{m:List xb}{s:Nat}{a0 O a2 a3 a4 a5 bc:Value}{l a:List Value}(h:Ye t m l a):Ye t (qj s m) (a0::O::a2::a3::a4::a5::bc::l) (t s::t (s+1)::t (s+2)::t (s+3)::t (s+4)::t (s+5)::t (s+6)::a):=(Jc (Jc (Jc (Jc (Jc (Jc (Jc h)))))))
abbrev Ei (m:List xb):List xb:=.k::.k::.k::.k::.k::.k::.k::.k::m
abbrev ij (s:Nat) (m:List xb):List xb:=.o s::.o (s+1)::.o (s+2)::.o (s+3)::.o (s+4)::.o (s+5)::.o (s+6)::.o (s+7)::m
theorem qg {m:List xb}{a0 O a2 a3 a4 a5 bc Fc:Value}{l a:List Value}(h:Ie m l a):Ie (Ei m) (a0::O::a2::a3::a4::a5::bc::Fc::l) (a0::O::a2::a3::a4::a5::bc::Fc::a):=(.k (.k (.k (.k (.k (.k (.k (.k h))))))))
theorem Yg {m:List xb}{s:Nat}{a0 O a2 a3 a4 a5 bc Fc b L c Pa vf eg Tf Gf:Value}{l a:List Value}(h:Ie m l a):Ie (ij s m) (a0::O::a2::a3::a4::a5::bc::Fc::l) (b::L::c::Pa::vf::eg::Tf::Gf::a):=(.o (.o (.o (.o (.o (.o (.o (.o h))))))))
theorem Si {t:Nat→Value}{m:List xb}{a0 O a2 a3 a4 a5 bc Fc:Value}{l a:List Value}(h:Ye t m l a):Ye t (Ei m) (a0::O::a2::a3::a4::a5::bc::Fc::l) (a0::O::a2::a3::a4::a5::bc::Fc::a):=(mk (mk (mk (mk (mk (mk (mk (mk h))))))))
theorem Fj {t:Nat→Value}{m:List xb}{s:Nat}{a0 O a2 a3 a4 a5 bc Fc:Value}{l a:List Value}(h:Ye t m l a):Ye t (ij s m) (a0::O::a2::a3::a4::a5::bc::Fc::l) (t s::t (s+1)::t (s+2)::t (s+3)::t (s+4)::t (s+5)::t (s+6)::t (s+7)::a):=(Jc (Jc (Jc (Jc (Jc (Jc (Jc (Jc h))))))))
abbrev Fi (m:List xb):List xb:=.k::.k::.k::.k::.k::.k::.k::.k::.k::m
abbrev Dk (s:Nat) (m:List xb):List xb:=.o s::.o (s+1)::.o (s+2)::.o (s+3)::.o (s+4)::.o (s+5)::.o (s+6)::.o (s+7)::.o (s+8)::m
theorem Yf {m:List xb}{a0 O a2 a3 a4 a5 bc Fc jb:Value}{l a:List Value}(h:Ie m l a):Ie (Fi m) (a0::O::a2::a3::a4::a5::bc::Fc::jb::l) (a0::O::a2::a3::a4::a5::bc::Fc::jb::a):=(.k (.k (.k (.k (.k (.k (.k (.k (.k h)))))))))
theorem Ti {m:List xb}{s:Nat}{a0 O a2 a3 a4 a5 bc Fc jb b L c Pa vf eg Tf Gf xf:Value}{l a:List Value}(h:Ie m l a):Ie (Dk s m) (a0::O::a2::a3::a4::a5::bc::Fc::jb::l) (b::L::c::Pa::vf::eg::Tf::Gf::xf::a):=(.o (.o (.o (.o (.o (.o (.o (.o (.o h)))))))))
theorem Ui {t:Nat→Value}{m:List xb}{a0 O a2 a3 a4 a5 bc Fc jb:Value}{l a:List Value}(h:Ye t m l a):Ye t (Fi m) (a0::O::a2::a3::a4::a5::bc::Fc::jb::l) (a0::O::a2::a3::a4::a5::bc::Fc::jb::a):=(mk (mk (mk (mk (mk (mk (mk (mk (mk h)))))))))
theorem xl {t:Nat→Value}{m:List xb}{s:Nat}{a0 O a2 a3 a4 a5 bc Fc jb:Value}{l a:List Value}(h:Ye t m l a):Ye t (Dk s m) (a0::O::a2::a3::a4::a5::bc::Fc::jb::l) (t s::t (s+1)::t (s+2)::t (s+3)::t (s+4)::t (s+5)::t (s+6)::t (s+7)::t (s+8)::a):=(Jc (Jc (Jc (Jc (Jc (Jc (Jc (Jc (Jc h)))))))))
abbrev ye (m:List xb):List xb:=.k::.k::.k::.k::.k::.k::.k::.k::.k::.k::m
abbrev Ad (s:Nat) (m:List xb):List xb:=.o s::.o (s+1)::.o (s+2)::.o (s+3)::.o (s+4)::.o (s+5)::.o (s+6)::.o (s+7)::.o (s+8)::.o (s+9)::m
theorem kc {m:List xb}{a0 O a2 a3 a4 a5 bc Fc jb a9:Value}{l a:List Value}(h:Ie m l a):Ie (ye m) (a0::O::a2::a3::a4::a5::bc::Fc::jb::a9::l) (a0::O::a2::a3::a4::a5::bc::Fc::jb::a9::a):=(.k (.k (.k (.k (.k (.k (.k (.k (.k (.k h))))))))))
theorem nb {m:List xb}{s:Nat}{a0 O a2 a3 a4 a5 bc Fc jb a9 b L c Pa vf eg Tf Gf xf Pc:Value}{l a:List Value}(h:Ie m l a):Ie (Ad s m) (a0::O::a2::a3::a4::a5::bc::Fc::jb::a9::l) (b::L::c::Pa::vf::eg::Tf::Gf::xf::Pc::a):=(.o (.o (.o (.o (.o (.o (.o (.o (.o (.o h))))))))))
theorem Fe {t:Nat→Value}{m:List xb}{a0 O a2 a3 a4 a5 bc Fc jb a9:Value}{l a:List Value}(h:Ye t m l a):Ye t (ye m) (a0::O::a2::a3::a4::a5::bc::Fc::jb::a9::l) (a0::O::a2::a3::a4::a5::bc::Fc::jb::a9::a):=(mk (mk (mk (mk (mk (mk (mk (mk (mk (mk h))))))))))
theorem Bd {t:Nat→Value}{m:List xb}{s:Nat}{a0 O a2 a3 a4 a5 bc Fc jb a9:Value}{l a:List Value}(h:Ye t m l a):Ye t (Ad s m) (a0::O::a2::a3::a4::a5::bc::Fc::jb::a9::l) (t s::t (s+1)::t (s+2)::t (s+3)::t (s+4)::t (s+5)::t (s+6)::t (s+7)::t (s+8)::t (s+9)::a):=(Jc (Jc (Jc (Jc (Jc (Jc (Jc (Jc (Jc (Jc h))))))))))
abbrev ud (m:List xb):List xb:=.k::.k::.k::.k::.k::.k::.k::.k::.k::.k::.k::.k::.k::.k::.k::.k::.k::.k::.k::.k::m
abbrev nf (s:Nat) (m:List xb):List xb:=.o s::.o (s+1)::.o (s+2)::.o (s+3)::.o (s+4)::.o (s+5)::.o (s+6)::.o (s+7)::.o (s+8)::.o (s+9)::.o (s+10)::.o (s+11)::.o (s+12)::.o (s+13)::.o (s+14)::.o (s+15)::.o (s+16)::.o (s+17)::.o (s+18)::.o (s+19)::m
theorem Za {m:List xb}{a0 O a2 a3 a4 a5 bc Fc jb a9 Yd ec a12 a qc me b kd c Td:Value}{l d:List Value}(h:Ie m l d):Ie (ud m) (a0::O::a2::a3::a4::a5::bc::Fc::jb::a9::Yd::ec::a12::a::qc::me::b::kd::c::Td::l) (a0::O::a2::a3::a4::a5::bc::Fc::jb::a9::Yd::ec::a12::a::qc::me::b::kd::c::Td::d):=(.k (.k (.k (.k (.k (.k (.k (.k (.k (.k (.k (.k (.k (.k (.k (.k (.k (.k (.k (.k h))))))))))))))))))))
theorem ub {m:List xb}{s:Nat}{a0 O a2 a3 a4 a5 bc Fc jb a9 Yd ec a12 b qc me c kd d Td e L f Pa vf eg Tf Gf xf Pc mi g ze Zg i j k Bh mh Me:Value}{l a:List Value}(h:Ie m l a):Ie (nf s m) (a0::O::a2::a3::a4::a5::bc::Fc::jb::a9::Yd::ec::a12::b::qc::me::c::kd::d::Td::l) (e::L::f::Pa::vf::eg::Tf::Gf::xf::Pc::mi::g::ze::Zg::i::j::k::Bh::mh::Me::a):=(.o (.o (.o (.o (.o (.o (.o (.o (.o (.o (.o (.o (.o (.o (.o (.o (.o (.o (.o (.o h))))))))))))))))))))
theorem xd {t:Nat→Value}{m:List xb}{a0 O a2 a3 a4 a5 bc Fc jb a9 Yd ec a12 a qc me b kd c Td:Value}{l d:List Value}(h:Ye t m l d):Ye t (ud m) (a0::O::a2::a3::a4::a5::bc::Fc::jb::a9::Yd::ec::a12::a::qc::me::b::kd::c::Td::l) (a0::O::a2::a3::a4::a5::bc::Fc::jb::a9::Yd::ec::a12::a::qc::me::b::kd::c::Td::d):=(mk (mk (mk (mk (mk (mk (mk (mk (mk (mk (mk (mk (mk (mk (mk (mk (mk (mk (mk (mk h))))))))))))))))))))
theorem tf {t:Nat→Value}{m:List xb}{s:Nat}{a0 O a2 a3 a4 a5 bc Fc jb a9 Yd ec a12 b qc me c kd d Td:Value}{l a:List Value}(h:Ye t m l a):Ye t (nf s m) (a0::O::a2::a3::a4::a5::bc::Fc::jb::a9::Yd::ec::a12::b::qc::me::c::kd::d::Td::l) (t s::t (s+1)::t (s+2)::t (s+3)::t (s+4)::t (s+5)::t (s+6)::t (s+7)::t (s+8)::t (s+9)::t (s+10)::t (s+11)::t (s+12)::t (s+13)::t (s+14)::t (s+15)::t (s+16)::t (s+17)::t (s+18)::t (s+19)::a):=(Jc (Jc (Jc (Jc (Jc (Jc (Jc (Jc (Jc (Jc (Jc (Jc (Jc (Jc (Jc (Jc (Jc (Jc (Jc (Jc h))))))))))))))))))))
abbrev Ge (m:List xb):List xb:=.k::.k::.k::.k::.k::.k::.k::.k::.k::.k::.k::.k::.k::.k::.k::.k::.k::.k::.k::.k::.k::.k::.k::.k::.k::.k::.k::.k::.k::.k::.k::.k::.k::.k::.k::.k::.k::.k::.k::.k::.k::.k::.k::.k::.k::.k::.k::.k::.k::.k::m
abbrev gj (s:Nat) (m:List xb):List xb:=.o s::.o (s+1)::.o (s+2)::.o (s+3)::.o (s+4)::.o (s+5)::.o (s+6)::.o (s+7)::.o (s+8)::.o (s+9)::.o (s+10)::.o (s+11)::.o (s+12)::.o (s+13)::.o (s+14)::.o (s+15)::.o (s+16)::.o (s+17)::.o (s+18)::.o (s+19)::.o (s+20)::.o (s+21)::.o (s+22)::.o (s+23)::.o (s+24)::.o (s+25)::.o (s+26)::.o (s+27)::.o (s+28)::.o (s+29)::.o (s+30)::.o (s+31)::.o (s+32)::.o (s+33)::.o (s+34)::.o (s+35)::.o (s+36)::.o (s+37)::.o (s+38)::.o (s+39)::.o (s+40)::.o (s+41)::.o (s+42)::.o (s+43)::.o (s+44)::.o (s+45)::.o (s+46)::.o (s+47)::.o (s+48)::.o (s+49)::m
theorem gb {m:List xb}{a0 O a2 a3 a4 a5 bc Fc jb a9 Yd ec a12 a qc me b kd c Td a20 a21 a22 a23 a24 a25 a26 fe a28 d He a31 e f g i Se a37 j n a40 o p q r s a46 t u a49:Value}{l v:List Value}(h:Ie m l v):Ie (Ge m) (a0::O::a2::a3::a4::a5::bc::Fc::jb::a9::Yd::ec::a12::a::qc::me::b::kd::c::Td::a20::a21::a22::a23::a24::a25::a26::fe::a28::d::He::a31::e::f::g::i::Se::a37::j::n::a40::o::p::q::r::s::a46::t::u::a49::l) (a0::O::a2::a3::a4::a5::bc::Fc::jb::a9::Yd::ec::a12::a::qc::me::b::kd::c::Td::a20::a21::a22::a23::a24::a25::a26::fe::a28::d::He::a31::e::f::g::i::Se::a37::j::n::a40::o::p::q::r::s::a46::t::u::a49::v):=(.k (.k (.k (.k (.k (.k (.k (.k (.k (.k (.k (.k (.k (.k (.k (.k (.k (.k (.k (.k (.k (.k (.k (.k (.k (.k (.k (.k (.k (.k (.k (.k (.k (.k (.k (.k (.k (.k (.k (.k (.k (.k (.k (.k (.k (.k (.k (.k (.k (.k h))))))))))))))))))))))))))))))))))))))))))))))))))
theorem Xc {m:List xb}{s:Nat}{a0 O a2 a3 a4 a5 bc Fc jb a9 Yd ec a12 b qc me c kd d Td a20 a21 a22 a23 a24 a25 a26 fe a28 e He a31 f g i j Se a37 k n a40 p q r t u a46 v w a49 x L y Pa vf eg Tf Gf xf Pc mi z ze Zg A B C Bh mh Me Af D F G H af K M N P Nj Q R Xh S T U W X Y Ch Z gc hc lc rc fd id md rd:Value}{l a:List Value}(h:Ie m l a):Ie (gj s m) (a0::O::a2::a3::a4::a5::bc::Fc::jb::a9::Yd::ec::a12::b::qc::me::c::kd::d::Td::a20::a21::a22::a23::a24::a25::a26::fe::a28::e::He::a31::f::g::i::j::Se::a37::k::n::a40::p::q::r::t::u::a46::v::w::a49::l) (x::L::y::Pa::vf::eg::Tf::Gf::xf::Pc::mi::z::ze::Zg::A::B::C::Bh::mh::Me::Af::D::F::G::H::af::K::M::N::P::Nj::Q::R::Xh::S::T::U::W::X::Y::Ch::Z::gc::hc::lc::rc::fd::id::md::rd::a):=(.o (.o (.o (.o (.o (.o (.o (.o (.o (.o (.o (.o (.o (.o (.o (.o (.o (.o (.o (.o (.o (.o (.o (.o (.o (.o (.o (.o (.o (.o (.o (.o (.o (.o (.o (.o (.o (.o (.o (.o (.o (.o (.o (.o (.o (.o (.o (.o (.o (.o h))))))))))))))))))))))))))))))))))))))))))))))))))
theorem Re {t:Nat→Value}{m:List xb}{a0 O a2 a3 a4 a5 bc Fc jb a9 Yd ec a12 a qc me b kd c Td a20 a21 a22 a23 a24 a25 a26 fe a28 d He a31 e f g i Se a37 j k a40 n o p q r a46 s u a49:Value}{l v:List Value}(h:Ye t m l v):Ye t (Ge m) (a0::O::a2::a3::a4::a5::bc::Fc::jb::a9::Yd::ec::a12::a::qc::me::b::kd::c::Td::a20::a21::a22::a23::a24::a25::a26::fe::a28::d::He::a31::e::f::g::i::Se::a37::j::k::a40::n::o::p::q::r::a46::s::u::a49::l) (a0::O::a2::a3::a4::a5::bc::Fc::jb::a9::Yd::ec::a12::a::qc::me::b::kd::c::Td::a20::a21::a22::a23::a24::a25::a26::fe::a28::d::He::a31::e::f::g::i::Se::a37::j::k::a40::n::o::p::q::r::a46::s::u::a49::v):=(mk (mk (mk (mk (mk (mk (mk (mk (mk (mk (mk (mk (mk (mk (mk (mk (mk (mk (mk (mk (mk (mk (mk (mk (mk (mk (mk (mk (mk (mk (mk (mk (mk (mk (mk (mk (mk (mk (mk (mk (mk (mk (mk (mk (mk (mk (mk (mk (mk (mk h))))))))))))))))))))))))))))))))))))))))))))))))))
theorem Cj {t:Nat→Value}{m:List xb}{s:Nat}{a0 O a2 a3 a4 a5 bc Fc jb a9 Yd ec a12 b qc me c kd d Td a20 a21 a22 a23 a24 a25 a26 fe a28 e He a31 f g i j Se a37 k n a40 o p q r u a46 v w a49:Value}{l a:List Value}(h:Ye t m l a):Ye t (gj s m) (a0::O::a2::a3::a4::a5::bc::Fc::jb::a9::Yd::ec::a12::b::qc::me::c::kd::d::Td::a20::a21::a22::a23::a24::a25::a26::fe::a28::e::He::a31::f::g::i::j::Se::a37::k::n::a40::o::p::q::r::u::a46::v::w::a49::l) (t s::t (s+1)::t (s+2)::t (s+3)::t (s+4)::t (s+5)::t (s+6)::t (s+7)::t (s+8)::t (s+9)::t (s+10)::t (s+11)::t (s+12)::t (s+13)::t (s+14)::t (s+15)::t (s+16)::t (s+17)::t (s+18)::t (s+19)::t (s+20)::t (s+21)::t (s+22)::t (s+23)::t (s+24)::t (s+25)::t (s+26)::t (s+27)::t (s+28)::t (s+29)::t (s+30)::t (s+31)::t (s+32)::t (s+33)::t (s+34)::t (s+35)::t (s+36)::t (s+37)::t (s+38)::t (s+39)::t (s+40)::t (s+41)::t (s+42)::t (s+43)::t (s+44)::t (s+45)::t (s+46)::t (s+47)::t (s+48)::t (s+49)::a):=(Jc (Jc (Jc (Jc (Jc (Jc (Jc (Jc (Jc (Jc (Jc (Jc (Jc (Jc (Jc (Jc (Jc (Jc (Jc (Jc (Jc (Jc (Jc (Jc (Jc (Jc (Jc (Jc (Jc (Jc (Jc (Jc (Jc (Jc (Jc (Jc (Jc (Jc (Jc (Jc (Jc (Jc (Jc (Jc (Jc (Jc (Jc (Jc (Jc (Jc h))))))))))))))))))))))))))))))))))))))))))))))))))
theorem Ea {m:List xb}{v a:Value}{l b:List Value}(h:Ie m l b):Ie (.i v::m) (a::l) (v::b):=.i h
theorem va {l:List Value}:Ie [] l l:=.z
end Go.wc
namespace Go.wc
open Go.RowKit
section
variable {P:Program}{Q:Exit→Act→World→Prop}{ops:Array Oper}{fr V:List Value}{ds:List Deferred}{w:World}
theorem Nv (ops:Array Oper) (fr:List Value) (ds:List Deferred) (j:Nat):yielded ops (F fr ds).tmps j=match (ops[j]?).bind (·.dst) with | some s=>(match (F fr ds).eval (.tmp s) with | .bool b=>some b | _=>none) | none=>none:=by
 unfold yielded;cases h:(ops[j]?).bind (·.dst) with
 | none=>simp
 | some s =>
  simp only [Option.bind_some,F,Act.eval];cases a:(⟨fr⟩:Array Value)[s]? with
  | none =>
   have:(⟨fr⟩:Array Value).getD s undef=undef:=by simp [Array.getD_eq_getD_getElem?,a]
   first
    | (simp [a,undef]; done)
    | (rw [this]; simp [undef])
  | some v =>
   have:(⟨fr⟩:Array Value).getD s undef=v:=by simp [Array.getD_eq_getD_getElem?,a]
   first
    | (simp [a]; done)
    | (rw [this]; cases v <;> rfl)
theorem wanted_put {o p:Oper}{fr:List Value}{ds ds':List Deferred}{g:List Value→List Value}(g3:∀ (y:Operand),(∀ e,p.dst=some e→zo y≠some e)→(F (g fr) ds).eval y=(F fr ds).eval y) (c:∀ e,p.dst=some e→(reads ops o).contains e=false) :
  Region.wanted o (yielded ops (F (g fr) ds').tmps)=Region.wanted o (yielded ops (F fr ds').tmps):=by
 have Qa:(F (g fr) ds').tmps=(F (g fr) ds).tmps:=rfl;have qa:(F fr ds').tmps=(F fr ds).tmps:=rfl;rw [Qa,qa];unfold Region.wanted;cases d:o.guard with
 | none=>rfl
 | some f =>
  obtain ⟨j,b⟩:=f;simp only;have:yielded ops (F (g fr) ds).tmps j=yielded ops (F fr ds).tmps j:=by
   rw [Nv,Nv];cases h:(ops[j]?).bind (·.dst) with
   | none=>rfl
   | some s =>
    simp only;rw [g3 (.tmp s) fun e he a=>by
     simp [zo] at a;subst a;have:=c s he;unfold reads at this;rw [d] at this;simp [h] at this]
  first
   | rw [this]
   | simp [this]
theorem kv (s:sh Q){rd:Bool}{i d:Nat}{o:Oper}{v:Value}(A:ops[i]?=some o) (rb:o.dst=some d){wt:Bool}(B:wt=false→v=undef){w0:World} :
  ∀ (a b:List Nat) (fr:List Value) (ds:List Deferred) (w:World),
   (∀ j ∈ a,match ops[j]? with
    | some p=>xj p.op=true∧(reads ops p).contains d=false∧p.dst≠some d∧(∀ e,p.dst=some e→(reads ops o).contains e=false)∧(rd=true→quiet p.op=true)
    | none=>True) →
   (rd=true→w=w0)→xj o.op=true→Region.wanted o (yielded ops (F fr ds).tmps)=wt →
   (wt=true→∀ ds w,(rd=true→w=w0)→(execOp (F fr ds).eval o).run P w=.ok (.value v) w) →
   wpOps P ops Q (a++b) (F (fr.set d v) ds) w→wpOps P ops Q (a++i::b) (F fr ds) w
 | [],b,fr,ds,w,_,hw,t,c,u,h=>by
  simp only [List.nil_append] at h ⊢;simp only [wpOps,A];cases wt with
  | true =>
   rw [if_pos c];left;unfold Oper.wp;rw [u rfl ds w hw,Oper.upon_value,rb];rw [show (F fr ds).put (some d) v=F (fr.set d v) ds from ia rfl ds];exact h
  | false =>
   rw [if_neg (by rw [c];simp),rb,← B rfl];rw [show (F fr ds).put (some d) v=F (fr.set d v) ds from ia rfl ds];exact h
 | j::a,b,fr,ds,w,R,hw,t,c,u,h=>by
  have C:=R j (by simp);have S:∀ k ∈ a,_:=fun k l=>R k (by simp [l]);simp only [List.cons_append,wpOps] at h ⊢;cases T:ops[j]? with
  | none =>
   rw [T] at h;simp only at h ⊢;exact kv s A rb B a b fr ds w S hw t c u h
  | some p =>
   rw [T] at h C;simp only at h C ⊢;obtain ⟨U,D,Y,W,G⟩:=C;rw [tw (fr:=fr) (v:=v) (ds:=ds) (ds':=ds) D] at h;have key:∀ (x:Value) (w':World) (ds':List Deferred),(rd=true→w'=w0)→wpOps P ops Q (a++b) ((F (fr.set d v) ds').put p.dst x) w'→wpOps P ops Q (a++i::b) ((F fr ds').put p.dst x) w':=by
    intro x w' ds' m l;obtain ⟨g,g1,g2,g3⟩:=put_eq fr ds' p.dst x;have Z:=wanted_put (ops:=ops) (o:=o) (p:=p) (ds':=ds') (fun y H=>g3 fr y ds' ds' H) W;rw [g1] at l ⊢;rw [g2 _ _ _ Y] at l;refine kv s A rb B a b (g fr) ds' w' S m t (Z.trans c) (fun gc n hc lc=>?_) l;rw [show execOp (F (g fr) n).eval o=execOp (F fr n).eval o from execOp_congr o t fun y H=>g3 fr y n n fun e he rc=>by
     exact cu (W e he) y H rc]
    exact u gc n hc lc
   by_cases X:Region.wanted p (yielded ops (F fr ds).tmps)=true
   ·rw [if_pos X] at h ⊢;rcases h with h | h
    ·left;unfold Oper.wp at h ⊢;rw [Dp (ds':=ds) U D] at h;cases q:(execOp (F fr ds).eval p).run P w with
     | halt e w' =>
      rw [q] at h;cases e<;>first | exact h | exact s _ (F (fr.set d v) ds) _ w' rfl h
     | ok r w' =>
      rw [q] at h;have m:rd=true→w'=w0:=fun e=>(yp (G e) q).1.trans (hw e);cases r with
      | value x=>exact key x w' ds m h
      | skip=>exact key undef w' ds m h
      | defer fd=>exact key undef w' (fd::ds) m h
      | enter f args =>
       have K:rd=true→False:=fun e=>by obtain ⟨_,x,M⟩:=yp (G e) q;cases M
       rw [Oper.upon_enter] at h ⊢;refine Calls.mono h fun e z he=>?_;cases e with
       | returned x=>exact key x z ds (fun e=>(K e).elim) he
       | panicked id=>exact s id (F (fr.set d v) ds) _ z rfl he
       | outgrown=>exact he
      | row r args =>
       have K:rd=true→False:=fun e=>by obtain ⟨_,x,M⟩:=yp (G e) q;cases M
       rw [Oper.upon_row] at h ⊢;exact Rows.mono h fun x z he=>key x z ds (fun e=>(K e).elim) he
      | _=>exact h
    ·right;refine ⟨?_,h.2⟩;have N:=h.1;unfold Oper.asks at N ⊢;rw [Dp (ds':=ds) U D] at N;exact N
   ·rw [if_neg X] at h ⊢;exact key undef w ds hw h
def aq (ops:Array Oper) (rd:Bool) (R:List Nat) (i:Nat):Bool :=
 match ops[i]? with
 | some o=>match o.dst with
  | some d=>xj o.op && R.all fun j=>j == i || (Rj ops j).contains i || (match ops[j]? with
    | some p=>xj p.op && !(reads ops p).contains d && p.dst != some d && (match p.dst with | some e=>!(reads ops o).contains e | none=>true) && (!rd || quiet p.op)
    | none=>true)
  | _=>false
 | none=>false
theorem oA {R Nd:List Nat}{i:Nat}{rd wt:Bool}{dst:Tmp}{op:Op}{ty:TypeId}{pos:String}{after:Array Edge}{k:Option (Nat×Bool)}{v:Value}(q:sh Q) (l:(decide R.Nodup && enabled ops R i && aq ops rd R i)=true) (r:R.erase i=Nd) (m:ops[i]?=some ⟨some dst,op,ty,pos,after,k⟩)
  (s:Region.wanted ⟨some dst,op,ty,pos,after,k⟩ (yielded ops (F fr ds).tmps)=wt) (t:wt=false→v=undef)
  (u:wt=true→∀ ds w',(rd=true→w'=w)→(execOp (F fr ds).eval ⟨some dst,op,ty,pos,after,k⟩).run P w'=.ok (.value v) w') (f:tc fr dst v V) (h:sf P ops Q Nd V ds w):sf P ops Q R fr ds w:=⟨fun M x=>by
 simp only [Bool.and_eq_true,decide_eq_true_eq] at l;obtain ⟨⟨y,n⟩,g⟩:=l;obtain ⟨z,A,rfl,B,C⟩:=x.split y (Xk n) n;unfold aq at g;simp only [m,Bool.and_eq_true,List.all_eq_true,Bool.or_eq_true,beq_iff_eq,List.contains_iff_mem] at g;unfold tc at f;subst f;subst r;refine kv q m rfl t (rd:=rd) (w0:=w) (v:=v) z A fr ds w (fun j D=>?_) (fun _=>rfl) g.1 s u (h.out _ B);obtain ⟨a,b,c⟩:=C j D;have:=g.2 j a;rcases this with (h | h) | h
 ·exact absurd h b
 ·exact absurd h c
 ·cases f:ops[j]? with
  | none=>trivial
  | some p =>
   rw [f] at h;simp only [Bool.and_eq_true,Bool.not_eq_true',bne_iff_ne,ne_eq,Bool.or_eq_true] at h;obtain ⟨⟨⟨⟨G,H⟩,K⟩,o⟩,d⟩:=h;refine ⟨G,H,K,fun e he=>?_,fun e=>?_⟩
   ·rw [he] at o;simpa using o
   ·rcases d with d | d
    ·rw [e] at d;cases d
    ·exact d⟩
theorem du {o:Oper}{j d:Nat}{b b':Bool}(a:o.guard=some (j,b)) (c:(ops[j]?).bind (·.dst)=some d) (e:yc fr d (.bool b')):Region.wanted o (yielded ops (F fr ds).tmps)=(b' == b):=by
 unfold Region.wanted;rw [a];simp only;have:yielded ops (F fr ds).tmps j=some b':=by
  rw [Nv,c];simp only;rw [aa e ds]
 rw [this];cases b<;>cases b'<;>rfl
theorem FG {R Nd:List Nat}{i j d:Nat}{b:Bool}{dst:Tmp}{op:Op}{ty:TypeId}{pos:String}{after:Array Edge}{v:Value}(a:sh Q) (c:(decide R.Nodup && enabled ops R i && aq ops false R i)=true) (e:R.erase i=Nd) (f:ops[i]?=some ⟨some dst,op,ty,pos,after,some (j,b)⟩) (g:(ops[j]?).bind (·.dst)=some d) (k:yc fr d (.bool b))
  (l:bf P ⟨some dst,op,ty,pos,after,some (j,b)⟩ fr v) (m:tc fr dst v V) (h:sf P ops Q Nd V ds w):sf P ops Q R fr ds w :=
 oA (wt:=true) a c e f ((du rfl g k).trans (by cases b<;>rfl)) (fun h=>by cases h) (fun _ ds w' _=>l.out ds w') m h
theorem GG {R Nd:List Nat}{i j d:Nat}{b b':Bool}{dst:Tmp}{op:Op}{ty:TypeId}{pos:String}{after:Array Edge}(a:sh Q) (c:(decide R.Nodup && enabled ops R i && aq ops false R i)=true) (e:R.erase i=Nd) (f:ops[i]?=some ⟨some dst,op,ty,pos,after,some (j,b)⟩) (g:(ops[j]?).bind (·.dst)=some d) (k:yc fr d (.bool b')) (l:(b' == b)=false)
  (m:tc fr dst undef V) (h:sf P ops Q Nd V ds w):sf P ops Q R fr ds w :=
 oA (wt:=false) a c e f ((du rfl g k).trans l) (fun _=>rfl) (fun h=>by cases h) m h
theorem hb {o:Oper}(a:o.guard=none):Region.wanted o (yielded ops (F fr ds).tmps)=true:=by simp [Region.wanted,a]
theorem Fp {o:Oper}{j d:Nat}{b:Bool}(a:o.guard=some (j,b)) (c:(ops[j]?).bind (·.dst)=some d) (e:yc fr d (.bool b)):Region.wanted o (yielded ops (F fr ds).tmps)=true :=
 (du a c e).trans (by cases b<;>rfl)
theorem Kg {R:List Nat}{i j:Nat}{d f:List Nat}{a b:Oper}(g:Fo ops R=[i,j]) (h:R.erase i=d) (l:R.erase j=f) (cb:ops[i]?=some a) (m:ops[j]?=some b) (n:Region.wanted a (yielded ops (F fr ds).tmps)=true) (o:Region.wanted b (yielded ops (F fr ds).tmps)=true)
  (p:Md P a fr ds w (sf P ops Q d) Q) (q:Md P b fr ds w (sf P ops Q f) Q):sf P ops Q R fr ds w :=
 Xx (by intro e;subst e;cases g) fun k c=>by
  rw [g] at c;simp at c;rcases c with rfl | rfl
  ·exact ⟨_,cb,by rw [if_pos n,h];exact p⟩
  ·exact ⟨_,m,by rw [if_pos o,l];exact q⟩
theorem Hm {R:List Nat}{i j k:Nat}{d f g:List Nat}{a b ok:Oper}(h:Fo ops R=[i,j,k]) (l:R.erase i=d) (m:R.erase j=f) (n:R.erase k=g) (cb:ops[i]?=some a) (o:ops[j]?=some b) (p:ops[k]?=some ok) (r:Region.wanted a (yielded ops (F fr ds).tmps)=true) (s:Region.wanted b (yielded ops (F fr ds).tmps)=true) (t:Region.wanted ok (yielded ops (F fr ds).tmps)=true)
  (u:Md P a fr ds w (sf P ops Q d) Q) (v:Md P b fr ds w (sf P ops Q f) Q) (x:Md P ok fr ds w (sf P ops Q g) Q):sf P ops Q R fr ds w :=
 Xx (by intro e;subst e;cases h) fun q c=>by
  rw [h] at c;simp at c;rcases c with rfl | rfl | rfl
  ·exact ⟨_,cb,by rw [if_pos r,l];exact u⟩
  ·exact ⟨_,o,by rw [if_pos s,m];exact v⟩
  ·exact ⟨_,p,by rw [if_pos t,n];exact x⟩
theorem mC {R:List Nat}{Vg Wg:List Value}{d:Nat}{b:Bool}(a:yc fr d (.bool b)) (c:tc fr d (.bool true) Vg) (e:tc fr d (.bool false) Wg)
  (f:b=true→sf P ops Q R Vg ds w) (g:¬ b=true→sf P ops Q R Wg ds w):sf P ops Q R fr ds w:=by
 cases b with
 | true=>have:=f rfl; rw [tc.same a c] at this; exact this
 | false=>have:=g (by simp); rw [tc.same a e] at this; exact this
theorem Mn {R:List Nat}{Vg Wg:List Value}{d:Nat}{p:Prop}[Decidable p] (a:yc fr d (.bool (decide p))) (b:tc fr d (.bool true) Vg) (c:tc fr d (.bool false) Wg)
  (e:p→sf P ops Q R Vg ds w) (f:¬ p→sf P ops Q R Wg ds w):sf P ops Q R fr ds w :=
 mC a b c (fun h=>e (of_decide_eq_true h)) (fun h=>f fun g=>h (decide_eq_true g))
end
end Go.wc
namespace Go.wc
open Go.RowKit
section
variable {P:Program}{Q:Exit→Act→World→Prop}{ops:Array Oper}{fr V:List Value}{ds:List Deferred}{w:World}
def waits (ops:Array Oper) (R S:List Nat) (i:Nat):Bool:=S.all fun j=>j == i || S.any fun k=>(Rj ops j).contains k && R.contains k
theorem ek.later {R d:List Nat}(h:ek ops R d) (m:R.Nodup){i:Nat}{S:List Nat}(n:∀ j ∈ S,j=i∨∃ k ∈ S,k ∈ Rj ops j∧k ∈ R):∀ a c,d=a++i::c→i ∉ a→∀ j ∈ a,j ∉ S:=by
 induction h with
 | z=>intro a c h; simp at h
 | @s R d k o t p =>
  intro a c h cb j b;cases a with
  | nil=>cases b
  | cons e a =>
   simp only [List.cons_append,List.cons.injEq] at h;obtain ⟨rfl,h⟩:=h;have he:k ∉ S:=fun hm=>by
    rcases n k hm with rfl | ⟨q,f,g,l⟩
    ·exact cb (by simp)
    ·exact Gz o g l
   rcases List.mem_cons.1 b with rfl | b
   ·exact he
   ·refine p (m.erase k) (fun j b=>?_) a c h (fun hm=>cb (by simp [hm])) j b;rcases n j b with rfl | ⟨q,f,g,l⟩
    ·exact .inl rfl
    ·exact .inr ⟨q,f,g,(m.mem_erase_iff).2 ⟨fun e=>he (e ▸ f),l⟩⟩
def bq (ops:Array Oper) (S R:List Nat) (i:Nat):Bool :=
 match ops[i]? with
 | some o=>match o.dst with
  | some d=>xj o.op && R.all fun j=>S.contains j || (match ops[j]? with
    | some p=>xj p.op && !(reads ops p).contains d && p.dst != some d && (match p.dst with | some e=>!(reads ops o).contains e | none=>true) && quiet p.op
    | none=>true)
  | _=>false
 | none=>false
theorem pA {R Nd:List Nat}{i:Nat}(S:List Nat){wt:Bool}{dst:Tmp}{op:Op}{ty:TypeId}{pos:String}{after:Array Edge}{m:Option (Nat×Bool)}{v:Value}(A:sh Q) (n:(decide R.Nodup && enabled ops R i && waits ops R S i && bq ops S R i)=true) (B:R.erase i=Nd) (o:ops[i]?=some ⟨some dst,op,ty,pos,after,m⟩)
  (C:Region.wanted ⟨some dst,op,ty,pos,after,m⟩ (yielded ops (F fr ds).tmps)=wt) (D:wt=false→v=undef)
  (G:wt=true→∀ ds w',w'=w→(execOp (F fr ds).eval ⟨some dst,op,ty,pos,after,m⟩).run P w'=.ok (.value v) w') (f:tc fr dst v V) (h:sf P ops Q Nd V ds w):sf P ops Q R fr ds w:=⟨fun Y q=>by
 simp only [Bool.and_eq_true,decide_eq_true_eq] at n;obtain ⟨⟨⟨r,s⟩,t⟩,g⟩:=n;obtain ⟨u,x,rfl,H,y⟩:=q.split r (Xk s) s;have K:=ek.later (S:=S) q r (fun j l=>by
  unfold waits at t;have:=List.all_eq_true.1 t j l;simp only [Bool.or_eq_true,beq_iff_eq,List.any_eq_true,Bool.and_eq_true,List.contains_iff_mem] at this;rcases this with h | ⟨k,k1,M,N⟩
  ·exact .inl h
  ·exact .inr ⟨k,k1,M,N⟩) u x rfl (fun hm=>(y i hm).2.1 rfl)
 unfold bq at g;simp only [o,Bool.and_eq_true,List.all_eq_true,Bool.or_eq_true,List.contains_iff_mem] at g;unfold tc at f;subst f;subst B;refine kv A o rfl D (rd:=true) (w0:=w) (v:=v) u x fr ds w (fun j l=>?_) (fun _=>rfl) g.1 C (fun a b c d=>G a b c (d rfl)) (h.out _ H);obtain ⟨a,b,c⟩:=y j l;have:=g.2 j a;rcases this with h | h
 ·exact absurd h (K j l)
 ·cases f:ops[j]? with
  | none=>trivial
  | some p =>
   rw [f] at h;simp only [Bool.and_eq_true,Bool.not_eq_true',bne_iff_ne,ne_eq] at h;obtain ⟨⟨⟨⟨T,U⟩,W⟩,z⟩,X⟩:=h;refine ⟨T,U,W,fun e he=>?_,fun e=>X⟩;rw [he] at z;simpa using z⟩
theorem HG {R Nd:List Nat}{i:Nat}(S:List Nat){dst:Tmp}{op:Op}{ty:TypeId}{pos:String}{after:Array Edge}{v:Value}(a:sh Q) (b:(decide R.Nodup && enabled ops R i && waits ops R S i && bq ops S R i)=true) (c:R.erase i=Nd) (d:ops[i]?=some ⟨some dst,op,ty,pos,after,none⟩)
  (e:Yj P ⟨some dst,op,ty,pos,after,none⟩ fr w v) (f:tc fr dst v V) (h:sf P ops Q Nd V ds w):sf P ops Q R fr ds w :=
 pA S (wt:=true) a b c d (hb rfl) (fun h=>by cases h) (fun _ ds w' hw=>by rw [hw];exact e.out ds) f h
theorem wF {R Nd:List Nat}{i j d:Nat}{b:Bool}(S:List Nat){dst:Tmp}{op:Op}{ty:TypeId}{pos:String}{after:Array Edge}{v:Value}(a:sh Q) (c:(decide R.Nodup && enabled ops R i && waits ops R S i && bq ops S R i)=true) (e:R.erase i=Nd) (f:ops[i]?=some ⟨some dst,op,ty,pos,after,some (j,b)⟩) (g:(ops[j]?).bind (·.dst)=some d) (k:yc fr d (.bool b))
  (l:Yj P ⟨some dst,op,ty,pos,after,some (j,b)⟩ fr w v) (m:tc fr dst v V) (h:sf P ops Q Nd V ds w):sf P ops Q R fr ds w :=
 pA S (wt:=true) a c e f (Fp rfl g k) (fun h=>by cases h) (fun _ ds w' hw=>by rw [hw];exact l.out ds) m h
end
end Go.wc
namespace Go.wc
open Go.RowKit
section
variable {P:Program}{Q:Exit→Act→World→Prop}{K:List Value→List Deferred→World→Prop}{fr V:List Value}{ds:List Deferred}{w:World}
variable {dst:Option Tmp}{ty:TypeId}{pos:String}{after:Array Edge}{g:Option (Nat×Bool)}
variable {S Od:Nat→Prop}{w0:World}{rs rs':List Fb}{A:World→Prop}
variable {T:TypeId}{d:TypeDesc}{Ef:Bool}{Ed:List Value}{n m:Nat}
inductive cq (fr:List Value) (n:Nat):Nat→List (Nat×Operand)→List Value→Prop where
 | z {i:Nat}:cq fr n i [] []
 | s {i:Nat} {x:Operand} {v:Value} {cs rest:List Value} {xs:List (Nat×Operand)} (a:pb fr x v) (b:v.cells=⟨cs⟩) (c:cs.length=n) (t:cq fr n (i+1) xs rest):cq fr n i ((i,x)::xs) (cs++rest)
theorem cq.fill {i:Nat}{xs:List (Nat×Operand)}{cells:List Value}(h:cq fr n i xs cells):∀ a:List Value,a.length=i*n+cells.length →
  Instr.fill (fun i=>some (i*n,n)) ⟨a⟩ (xs.map fun p=>(p.1,(F fr ds).eval p.2))=some ⟨a.take (i*n)++cells⟩:=by
 induction h with
 | z=>intro a b; simp at b; simp [Instr.fill,← b]
 | @s i x v cs rest xs f g c t j =>
  intro a b;simp only [List.length_append] at b;have d:(i+1)*n=i*n+n:=by rw [Nat.add_mul,Nat.one_mul]
  simp only [List.map_cons,Instr.fill,f ds,g];have Qa:¬ (((⟨cs⟩:Array Value).size≠n || i*n+(⟨cs⟩:Array Value).size > (⟨a⟩:Array Value).size)=true):=by simp [c,b]
  rw [if_neg Qa];have k:=fs cs (i*n) 0 a (by omega);have qa:(⟨cs⟩:Array Value).zipIdx.toList=cs.zipIdx 0:=by simp
  have e:(⟨cs⟩:Array Value).zipIdx.foldl (fun (cs:Array Value) (p:Value×Nat)=>cs.setIfInBounds (i*n+p.2) p.1) ⟨a⟩=⟨a.take (i*n+0)++cs++a.drop (i*n+0+cs.length)⟩:=by
   rw [← Array.foldl_toList,qa];exact k
  first
   | rw [e]
   | (erw [e])
  rw [j _ (by simp [d,c,b];omega)];congr 2;rw [d,c,Nat.add_zero];have:(a.take (i*n)++cs).length=i*n+n:=by simp [c];omega
  rw [← this,List.take_left,List.append_assoc]
theorem dq {e:TypeId}{len:Nat}{xs:List (Nat×Operand)}{cells:List Value}(f:P.underlying T=some (.slice e)) (c:Kc P e Ef Ed n m) (a:(decide (0<n) && decide (n≤1000) && decide (0<len) && decide (len≤1000))=true) (j:cq fr n 0 xs cells) (k:cells.length=len*n) (l:Sep S Od w0 w rs A)
  (h:∀ b w',w.heap.size≤b→Sep S Od w0 w' (.ba b e cells::rs) A→Og fr dst (.slice (some ⟨b,0,none⟩) len len) fun V=>K V ds w'):Md P (Oper.mk dst (.buildSlice T len ⟨xs⟩) ty pos after g) fr ds w K Q:=by
 obtain ⟨V,rb⟩:=Ih fr dst (.slice (some ⟨w.heap.size,0,none⟩) len len);refine bh (v:=.slice (some ⟨w.heap.size,0,none⟩) len len) (w':=w.alloc (.cells ⟨cells⟩ e)) ?_ rb (h _ _ (Nat.le_refl _) (l.alloc rfl (heap_alloc_new w _)) V rb);obtain ⟨z,o,hc⟩:=c.zero (w:=w);have q:=c.sizeOf (w:=w);simp only [Bool.and_eq_true,decide_eq_true_eq] at a;have hmul:len*n≤1000*1000:=Nat.mul_le_mul a.2 a.1.1.2;have r:¬ (len*n > 2 ^ 24):=by omega
 have s:¬ (len*n=0):=by
  have:=Nat.mul_pos a.1.2 a.1.1.1;omega
 have t:((⟨xs⟩:Array (Nat×Operand)).map fun (i,x)=>(i,(F fr ds).eval x)).toList=xs.map fun p=>(p.1,(F fr ds).eval p.2):=by simp
 have d:=j.fill (ds:=ds) ((Array.range (len*n)).map (z.cells[· % z.cells.size]!)).toList (by simp [k]);simp only [execOp,Instr.buildSlice,Sem.run_bind,run_underlying f,Result.andThen_ok,q,if_neg r,if_neg s,o,Sem.run_pure,t];have u:(⟨((Array.range (len*n)).map (z.cells[· % z.cells.size]!)).toList⟩:Array Value)=(Array.range (len*n)).map (z.cells[· % z.cells.size]!):=rfl;rw [u] at d;simp only [d];simp [newRow]
structure Qr (P:Program) (c:Code) (Q:Exit→Act→World→Prop) (n:Nat) (fr:List Value) (ds:List Deferred) (w:World):Prop where
 out:Code.rounds P c Q n (F fr ds) w
theorem Dx {c:Code}(n:Nat) (h:Qr P c Q n fr ds w):Ce P (.loop c) Q fr ds w:=⟨wp_loop_rounds n h.out⟩
theorem ml {c:Code}{n:Nat}(h:Ce P c (Exit.then (fun a w=>∃ fr ds,a=F fr ds∧Qr P c Q n fr ds w) Q) fr ds w):Qr P c Q (n+1) fr ds w:=⟨by
 rw [rounds_succ];refine wp_mono h.out fun e a w b=>?_;cases e with
 | normal=>obtain ⟨fr,ds,rfl,h⟩:=b; exact h.out
 | exit id=>exact b
 | goto l=>exact b
 | ret=>exact b
 | panic d=>exact b
 | outgrown=>exact b⟩
theorem Nn {c:Code}{n:Nat}(h:Qr P c Q n fr ds w):Exit.then (fun a w=>∃ fr ds,a=F fr ds∧Qr P c Q n fr ds w) Q .normal (F fr ds) w:=⟨_,_,rfl,h⟩
theorem bB {f:Operand}{xs:List Operand}{tys:Array TypeId}{k:FuncId}{first cap vs:List Value}{R:Value→World→Prop}(b:Lb P k) (c:pb fr f (.func (.func k) ⟨first⟩ ⟨cap⟩)) (d:Bk fr xs vs)
  (hc:Ab P k (first++vs++cap) w R) (h:∀ v w',R v w'→Og fr dst v fun V=>K V ds w'):Md P (Oper.mk dst (.call { callee:=.value f,args:=⟨xs⟩,argTypes:=tys }) ty pos after g) fr ds w K Q:=by
 refine uu (args:=first++vs++cap) ?_ hc h;have i:=c ds;have j:=d ds;have a:=b.out ⟨first++vs++cap⟩ w;have e:(⟨first⟩:Array Value)++(⟨vs⟩:Array Value)++(⟨cap⟩:Array Value)=⟨first++vs++cap⟩:=by
  apply Array.ext';simp
 simp only [List.append_assoc] at a e ⊢;simp [execOp,resolve,i,Deferred.ofValue,invoke,j];first
  | exact a
  | (simpa using a)
end
end Go.wc
namespace Go.hd
open Go.wc Go.RowKit
section
variable {P:Program}{Q:Exit→Act→World→Prop}{K:List Value→List Deferred→World→Prop}{fr V:List Value}{ds:List Deferred}{w:World}
variable {dst:Option Tmp}{ty:TypeId}{pos:String}{after:Array Edge}{g:Option (Nat×Bool)}
variable {w0:World}{rs rs':List Fb}{μ I:M}
variable {T:TypeId}{d:TypeDesc}{Ef:Bool}{Ed:List Value}{n m:Nat}
def okV (R:Value→World→Prop):Ending→World→Prop
 | .returned v,w=>R v w
 | _,_=>False
def hq (P:Program) (fn:Func) (R:Value→World→Prop):Exit→Act→World→Prop
 | .panic _,_,_=>False
 | e,a,w=>bodyPostD P fn (okV R) e a w
theorem lr {f:FuncId}{fn:Func}{c:Code}{args frm:List Value}{R:Value→World→Prop}(d:P.funcs[f]?=some fn) (g:fn.body=some c)
  (i:args++List.replicate (fn.ntmps - args.length) undef=frm) (h:Ce P c (hq P fn R) frm [] w):Ab P f args w R:=by
 refine ⟨Calls.mono (calls_of_wp_defers (R:=okV R) d g ?_) fun e w he=>by cases e<;>exact he⟩;subst i;have qa:(⟨args⟩:Array Value)++Array.replicate (fn.ntmps - args.length) undef=⟨args++List.replicate (fn.ntmps - args.length) undef⟩:=by
  apply Array.ext';simp
 have h:=wp_mono h.out (Q':=bodyPostD P fn (okV R)) fun e a w b=>by
  cases e<;>first | exact b | exact (False.elim b)
 simpa [F,qa] using h
structure xu (P:Program) (f:FuncId) (args:List Value) (w:World) (R:Value→World→Prop):Prop where
 out:∀ u,CallsD P f ⟨args⟩ u w fun e a w'=>a=u∧okV R e w'
theorem cB {f:FuncId}{fn:Func}{c:Code}{args frm:List Value}{R:Value→World→Prop}(d:P.funcs[f]?=some fn) (g:fn.body=some c)
  (j:args++List.replicate (fn.ntmps - args.length) undef=frm) (h:Ce P c (Ln P fn R) frm [] w):xu P f args w R:=by
 refine ⟨fun u=>callsD_of_wp d g ?_⟩;subst j;have qa:(⟨args⟩:Array Value)++Array.replicate (fn.ntmps - args.length) undef=⟨args++List.replicate (fn.ntmps - args.length) undef⟩:=by
  apply Array.ext';simp
 have h:=wp_mono h.out (Q':=bodyPost P fn (okV R)) fun e a w b=>by
  cases e with
  | normal=>exact b
  | ret=>exact b
  | panic k=>exact b
  | exit i=>exact b
  | goto l=>exact b
  | outgrown=>exact b
 simpa [F,qa] using h
theorem nn {f:Operand}{xs:List Operand}{tys:Array TypeId}{k:FuncId}{cap vs:List Value}(a:pb fr f (.func (.func k) #[] ⟨cap⟩)) (b:Bk fr xs vs)
  (c:rf fr dst undef V) (h:K V (⟨.fn (.func k) ⟨cap⟩,⟨vs⟩⟩::ds) w):Md P (Oper.mk dst (.defer { callee:=.value f,args:=⟨xs⟩,argTypes:=tys }) ty pos after g) fr ds w K Q:=by
 constructor;intro l d;have e:=a ds;have i:=b ds;have j:(execOp (F fr ds).eval (Oper.mk dst (.defer { callee:=.value f,args:=⟨xs⟩,argTypes:=tys }) ty pos after g)).run P w=.ok (.defer ⟨.fn (.func k) ⟨cap⟩,⟨vs⟩⟩) w:=by
  simp [execOp,resolve,e,Deferred.ofValue,i]
 unfold Oper.wp;rw [j];have:=d _ _ _ h;rw [← c _] at this;simpa [Oper.upon,F,Act.put] using this
theorem Lo {fn:Func}{R a:Value→World→Prop}{k:FuncId}{cap vs:List Value}(b:Lb P k) (hc:xu P k (vs++cap) w a) (h:∀ v w',a v w'→hq P fn R .ret (F fr ds) w') :
  hq P fn R .ret (F fr (⟨.fn (.func k) ⟨cap⟩,⟨vs⟩⟩::ds)) w:=by
 refine ⟨by simp,.func k,⟨cap⟩,k,⟨vs++cap⟩,rfl,?_,?_⟩
 ·have:=b.out ⟨vs++cap⟩ w;simp [invoke,this]
 ·refine (hc.out .returning).mono fun e d w' he=>?_;obtain ⟨rfl,he⟩:=he;cases e with
  | returned v=>exact h v w' he
  | panicked c=>exact he.elim
  | outgrown=>exact he.elim
theorem Rl {fn:Func}{R:Value→World→Prop}{a:List ResultVar}{vs:List Value}(b:fn.results=⟨a⟩) (c:Xb P fr w a vs) (h:R (mq vs) w):hq P fn R .ret (F fr []) w :=
 ⟨_,Fz b c,h⟩
def Xa (ms:List (Nat×List MapEntry×Nat)):List Fb:=(ms.map fun m=>.map m.1 m.2.1 m.2.2).reverse
def pd (ms:List (Nat×List MapEntry×Nat)):List Value:=ms.map fun m=>.map (some m.1)
variable {κ β:Type}[DecidableEq κ] [xb κ] [Fh β]
def Wd (μ:M):List (Nat×List MapEntry×Nat)→List (List (κ×β))→Prop
 | [],a=>a=[]
 | m::ms,a=>∃ x t,a=x::t∧Dd μ m.2.1 m.2.2 x∧Wd μ ms t
theorem Wd.up (l:ga μ I):∀ {ms:List (Nat×List MapEntry×Nat)}{a:List (List (κ×β))},Wd μ ms a→Wd I ms a
 | [],a,h=>by rw [Wd] at h ⊢; exact h
 | m::ms,a,h=>by
  rw [Wd] at h ⊢;obtain ⟨x,t,b,c,d⟩:=h;exact ⟨x,t,b,c.up l,Wd.up l d⟩
theorem Wd.get:∀ {ms:List (Nat×List MapEntry×Nat)}{d:List (List (κ×β))}{i:Nat}{x:List (κ×β)},Wd μ ms d→d[i]?=some x→∃ b es c,ms[i]?=some (b,es,c)∧Dd μ es c x
 | [],d,i,x,h,a=>by rw [Wd] at h; subst h; simp at a
 | m::ms,d,i,x,h,a=>by
  rw [Wd] at h;obtain ⟨y,t,rfl,e,f⟩:=h;cases i with
  | zero=>simp at a; subst a; exact ⟨m.1,m.2.1,m.2.2,rfl,e⟩
  | succ i=>simp at a; simpa using Wd.get f a
theorem Wd.set:∀ {ms:List (Nat×List MapEntry×Nat)}{a:List (List (κ×β))}{i:Nat}{e:Nat×List MapEntry×Nat}{x:List (κ×β)},Wd μ ms a→Dd μ e.2.1 e.2.2 x→Wd μ (ms.set i e) (a.set i x)
 | [],a,i,e,x,h,b=>by rw [Wd] at h; subst h; simp [Wd]
 | m::ms,a,i,e,x,h,b=>by
  rw [Wd] at h;obtain ⟨y,t,rfl,d,c⟩:=h;cases i with
  | zero=>exact ⟨x,t,rfl,b,c⟩
  | succ i=>exact ⟨y,_,rfl,d,Wd.set c b⟩
theorem Wd.push:∀ {ms:List (Nat×List MapEntry×Nat)}{a:List (List (κ×β))}{e:Nat×List MapEntry×Nat}{x:List (κ×β)},Wd μ ms a→Dd μ e.2.1 e.2.2 x→Wd μ (ms++[e]) (a++[x])
 | [],a,e,x,h,b=>by rw [Wd] at h; subst h; exact ⟨x,[],rfl,b,rfl⟩
 | m::ms,a,e,x,h,b=>by
  rw [Wd] at h;obtain ⟨y,t,rfl,c,d⟩:=h;exact ⟨y,_,rfl,c,Wd.push d b⟩
theorem Wd.take:∀ {ms:List (Nat×List MapEntry×Nat)}{a:List (List (κ×β))}(j:Nat),Wd μ ms a→Wd μ (ms.take j) (a.take j)
 | [],a,j,h=>by rw [Wd] at h; subst h; simp [Wd]
 | m::ms,a,j,h=>by
  rw [Wd] at h;obtain ⟨y,t,rfl,b,c⟩:=h;cases j with
  | zero=>simp [Wd]
  | succ j=>exact ⟨y,_,rfl,b,Wd.take j c⟩
theorem FC (ms:List (Nat×List MapEntry×Nat)) (e:Nat×List MapEntry×Nat):Xa (ms++[e])=.map e.1 e.2.1 e.2.2::Xa ms:=by simp [Xa]
theorem TC {ms:List (Nat×List MapEntry×Nat)}{i b c c':Nat}{es a:List MapEntry}(h:ms[i]?=some (b,es,c)):pd (ms.set i (b,a,c'))=pd ms:=by
 unfold pd;refine List.ext_getElem? fun j=>?_;rw [List.getElem?_map,List.getElem?_map,List.getElem?_set];split
 ·rename_i d;subst d;have e:=(List.getElem?_eq_some_iff.1 h).1;rw [if_pos e,h];rfl
 ·rfl
theorem UC {ms:List (Nat×List MapEntry×Nat)}{i b c:Nat}{es:List MapEntry}(h:ms[i]?=some (b,es,c)):Fb.map b es c ∈ Xa ms:=by
 unfold Xa;rw [List.mem_reverse,List.mem_map];exact ⟨(b,es,c),List.mem_of_getElem? h,rfl⟩
theorem _root_.Go.wc.Sep.XB {pre:List Fb}{ms:List (Nat×List MapEntry×Nat)}{i b c:Nat}{es:List MapEntry}(a:la μ w0 w (pre++(Xa ms++rs))) (h:ms[i]?=some (b,es,c)):w.heap[b]?=some (.map ⟨es⟩ c):=
 a.all (.map b es c) (by simp [UC h])
theorem Row.mapElem {v:Value}{ms:List (Nat×List MapEntry×Nat)}{d:List (List (κ×β))}{i:Int}{x:List (κ×β)}(h:Row w v T 1 d.length (pd ms)) (hm:Wd μ ms d) (g:at_ d i=some x) :
  ∃ b o a es c,Lj v 1 i b o∧(∀ w T,Row w v T 1 d.length (pd ms)→Yi w b o [.map (some a)])∧ms[i.toNat]?=some (a,es,c)∧Dd μ es c x:=by
 obtain ⟨l,m,n⟩:=ur g;obtain ⟨a,es,c,f,p⟩:=hm.get n;obtain ⟨b,o,s,rfl,hc⟩:=h.Eo (by omega);refine ⟨b,o+i.toNat,a,es,c,⟨o,_,_,rfl,l,m,by simp⟩,fun t y q j u e=>?_,f,p⟩;obtain ⟨b',z,c',k,r⟩:=q.Eo (by omega);simp at k;obtain ⟨⟨rfl,rfl⟩,rfl⟩:=k;cases j with
 | succ j=>simp at e
 | zero =>
  simp at e;subst e;have:(pd ms)[i.toNat]?=some (.map (some a)):=by unfold pd;rw [List.getElem?_map,f];rfl
  exact r _ _ this
theorem cl {x y z:Operand}{cf aa:TypeId}{v:Value}{pre:List Fb}{ms:List (Nat×List MapEntry×Nat)}{b c i:Nat}{es:List MapEntry}{kk:κ}{q:List (κ×β)}{xx:β}{d:List (List (κ×β))}(n:P.underlying T=some (.map cf aa)) (o:P.underlying cf=some (xb.yl (κ:=κ))) (p:pb fr x (.map (some b))) (r:pb fr y (xb.key kk)) (s:pb fr z v) (t:Fh.jj μ v xx)
  (u:la μ w0 w (pre++(Xa ms++rs))) (cb:ms[i]?=some (b,es,c)) (he:Dd μ es c q) (hm:Wd μ ms d)
  (rb:rf fr dst undef V) (h:∀ f w',Wd μ f (d.set i (xe q kk xx))→pd ms=pd f→d.length=(d.set i (xe q kk xx)).length→la μ w0 w' (pre++(Xa f++rs))→K V ds w'):Md P (Oper.mk dst (.mapUpdate T x y z) ty pos after g) fr ds w K Q:=by
 have B:=(List.getElem?_eq_some_iff.1 cb).1;have A:(pre++(Xa ms++rs))[pre.length+(ms.length - 1 - i)]?=some (.map b es c):=by
  rw [List.getElem?_append_right (by omega),Nat.add_sub_cancel_left,List.getElem?_append_left (by simp [Xa];omega)];unfold Xa;rw [List.getElem?_reverse (by simp;omega),List.length_map,show ms.length - 1 - (ms.length - 1 - i)=i by omega,List.getElem?_map,cb];rfl
 refine zB n o p r (xb.cf kk) s u A he.Ff.keys rb fun w' rs' k l=>h _ w' (hm.set (e:=(b,putAt es c (xb.key kk) v,Vl es c (xb.key kk))) (he.put kk t)) (TC cb).symm (by simp) ?_;unfold tc at k;subst k;have e:(pre++(Xa ms++rs)).set (pre.length+(ms.length - 1 - i)) (.map b (putAt es c (xb.key kk) v) (Vl es c (xb.key kk)))=pre++(Xa (ms.set i (b,putAt es c (xb.key kk) v,Vl es c (xb.key kk)))++rs):=by
  rw [List.set_append_right _ _ (by omega),Nat.add_sub_cancel_left,List.set_append_left _ _ (by simp [Xa];omega)];congr 2;unfold Xa;rw [List.map_set];refine List.ext_getElem? fun j=>?_;rcases Nat.lt_or_ge j ms.length with a | a
  ·rw [List.getElem?_set,List.getElem?_reverse (by simpa using a),List.getElem?_reverse (by simpa using a)];simp only [List.length_map,List.length_reverse,List.length_set,List.getElem?_set];by_cases m:ms.length - 1 - i=j
   ·rw [if_pos m,if_pos (by omega),if_pos (by omega),if_pos (by omega)]
   ·rw [if_neg m,if_neg (by omega)]
  ·rw [List.getElem?_eq_none (by simpa using a),List.getElem?_eq_none (by simpa using a)]
 rw [e] at l;exact l
theorem BB {t:TypeId}{s x:Operand}{v:Value}{bytes k b d c:Nat}{ms:List (Nat×List MapEntry×Nat)}{e f:List (List (κ×β))}(i:P.underlying t=some (.slice T)) (j:Kc P T Ef Ed 1 bytes) (l:Ed.length=1)
  (m:pb fr s v) (n:pb fr x (.slice (some ⟨b,0,none⟩) 1 c)) (o:la μ w0 w rs) (p:yc rs k (.row v T 1 e.length (pd ms))) (q:Yi w b 0 [.map (some d)]) (r:app e [([]:List (κ×β))]=some f) (u:bytes≤4096)
  (h:∀ a w' rs',tc rs k (.row a T 1 f.length (pd ms++[.map (some d)])) rs'→la μ w0 w' rs'→Og fr dst a fun V=>K V ds w') :
  Md P (Oper.mk dst (.call { callee:=.builtin .append,args:=#[s,x],argTypes:=#[t,t] }) ty pos after g) fr ds w K Q:=by
 obtain ⟨y,z⟩:=wu r;refine Uq i j (by simp [l]) m n o p q rfl rfl ⟨z,u⟩ fun a w' rs' A=>h a w' rs' (by rw [y];exact A)
theorem _root_.Go.wc.Sep.YB {pre:List Fb}{ms:List (Nat×List MapEntry×Nat)}{b c:Nat}{es:List MapEntry}(a:la μ w0 w (pre++(.map b es c::(Xa ms++rs)))):la μ w0 w (pre++(Xa (ms++[(b,es,c)])++rs)):=by
 rw [FC];exact a
theorem yz (ms:List (Nat×List MapEntry×Nat)) (b c:Nat) (es:List MapEntry):pd ms++[.map (some b)]=pd (ms++[(b,es,c)]):=by simp [pd]
theorem _root_.Go.wc.Sep.lv {pre:List Fb}{ms:List (Nat×List MapEntry×Nat)}{j:Nat}(a:la μ w0 w (pre++(Xa ms++rs))):la μ w0 w (pre++(Xa (ms.take j)++rs)):=by
 have c:(pre++(Xa (ms.take j)++rs)).Sublist (pre++(Xa ms++rs)):=by
  refine (List.Sublist.refl pre).append (List.Sublist.append ?_ (List.Sublist.refl rs));unfold Xa;exact ((List.take_sublist j ms).map _).reverse
 refine ⟨a.keeps,fun r e=>a.all r (c.subset e),(c.filterMap _).nodup a.ki,fun b f=>a.new b ((c.filterMap _).subset f),?_⟩;refine a.Ci.mono fun k _ d=>⟨d.1,fun hm=>d.2 ((c.filterMap Fb.block).subset hm)⟩
theorem Row.ZB {v:Value}{sz:Nat}{xs:List Value}{j:Int}(h:Row w v T sz n xs) (e:0≤j) (r:j≤n) :
  ∃ b,Un v sz none (some j) b∧b.ownBlock=v.ownBlock∧∀ w T,Row w v T sz n xs→Row w b T sz j.toNat (xs.take (j.toNat*sz)):=by
 have c:∀ w T,Row w v T sz n xs→(xs.take (j.toNat*sz)).length=j.toNat*sz:=fun w T h=>by
  rw [List.length_take,h.1];exact Nat.min_eq_left (Nat.mul_le_mul_right _ (by omega))
 rcases h.2 with ⟨rfl,rfl⟩ | ⟨g,o,cap,cur,rfl,s,t,u,x,y⟩
 ·have:j=0:=by omega
  subst this;exact ⟨.slice none 0 0,⟨none,0,0,rfl,by simp,by simp,by simp,by simp⟩,rfl,fun w T h=>⟨c w T h,.inl ⟨rfl,rfl⟩⟩⟩
 ·refine ⟨.slice (some ⟨g,o,none⟩) j.toNat cap,⟨_,_,_,rfl,by simp,by simpa using e,by simp;omega,?_⟩,rfl,fun f i d=>⟨c f i d,.inr ?_⟩⟩
  ·simp [ak]
  ·rcases d.2 with ⟨a,_⟩ | ⟨Sg,z,A,k,a,l,k1,m,p,q⟩
   ·simp at a
   ·simp at a;obtain ⟨⟨rfl,rfl⟩,rfl⟩:=a;exact ⟨g,o,cap,k,rfl,l,by omega,m,p,by rw [← q,List.take_take,Nat.min_eq_left (Nat.mul_le_mul_right _ (by omega))]⟩
theorem Row.cutFrom {v:Value}{sz:Nat}{xs:List Value}{i:Int}(h:Row w v T sz n xs) (j:0≤i) (cb:i≤n) :
  ∃ b,Un v sz (some i) none b∧b.ownBlock=v.ownBlock∧∀ w T,Row w v T sz n xs→Row w b T sz (n - i.toNat) (xs.drop (i.toNat*sz)):=by
 have d:∀ w T,Row w v T sz n xs→(xs.drop (i.toNat*sz)).length=(n - i.toNat)*sz:=fun w T h=>by
  rw [List.length_drop,h.1,Nat.sub_mul]
 rcases h.2 with ⟨rfl,rfl⟩ | ⟨g,o,cap,cur,rfl,p,q,r,s,t⟩
 ·have:i=0:=by omega
  subst this;exact ⟨.slice none 0 0,⟨none,0,0,rfl,by simp,by simp,by simp,by simp⟩,rfl,fun w T h=>⟨d w T h,.inl ⟨rfl,by simp⟩⟩⟩
 ·refine ⟨_,⟨_,_,_,rfl,by simpa using j,by simpa using cb,by simp;omega,rfl⟩,by simp only [Option.getD_some];split<;>simp [Value.ownBlock,ak],fun k l c=>⟨d k l c,.inr ?_⟩⟩;rcases c.2 with ⟨a,_⟩ | ⟨Sg,u,x,e,a,f,k1,y,z,m⟩
  ·simp at a
  ·simp at a;obtain ⟨⟨rfl,rfl⟩,rfl⟩:=a;have hmul:i.toNat*sz+(cap - i.toNat)*sz=cap*sz:=by rw [← Nat.add_mul];congr 1;omega
   by_cases hc:cap=i.toNat
   ·refine ⟨g,o,cap - i.toNat,e,by simp [hc],f,by omega,by omega,by omega,?_⟩;rw [show n - i.toNat=0 by omega,Nat.zero_mul,List.take_zero,List.drop_eq_nil_of_le (by rw [c.1];exact Nat.mul_le_mul_right _ (by omega))]
   ·refine ⟨g,o+i.toNat*sz,cap - i.toNat,e,by simp [hc,ak],f,by omega,by omega,by omega,?_⟩;rw [← m,← List.drop_drop,List.drop_take,Nat.sub_mul]
theorem ma.drop {α:Type}[Ta α]:∀ {l:List α}{cells:List Value}(i:Nat),ma μ cells l→ma μ (cells.drop (i*Ta.sz α)) (l.drop i)
 | [],cells,i,h=>by rw [ma] at h; subst h; simp [ma]
 | x::l,cells,0,h=>by simpa using h
 | x::l,cells,i+1,h=>by
  rw [ma] at h;obtain ⟨cs,t,rfl,a,b⟩:=h;have e:(i+1)*Ta.sz α=cs.length+i*Ta.sz α:=by rw [Nat.add_mul,Ta.nh a];omega
  rw [e,← List.drop_drop];simpa using ma.drop i b
theorem Row.hC {α:Type}[Ta α]{v:Value}{cells:List Value}{l b:List α}{i:Int}(h:Row w v T (Ta.sz α) l.length cells) (hm:ma μ cells l) (g:cut l i l.length=some b) :
  ∃ a c,Un v (Ta.sz α) (some i) none a∧a.ownBlock=v.ownBlock∧(∀ w T,Row w v T (Ta.sz α) l.length cells→Row w a T (Ta.sz α) b.length c)∧ma μ c b:=by
 obtain ⟨⟨d,e,m⟩,rfl⟩:=Yp g;obtain ⟨a,qa,f,j⟩:=Row.cutFrom h d e;refine ⟨a,cells.drop (i.toNat*Ta.sz α),qa,f,fun w T k=>?_,by simpa using hm.drop i.toNat⟩;have:=j w T k;simpa using this
theorem Row.iC {v:Value}{ms:List (Nat×List MapEntry×Nat)}{a c:List (List (κ×β))}{j:Int}(h:Row w v T 1 a.length (pd ms)) (hm:Wd μ ms a) (g:cut a 0 j=some c) :
  ∃ b d,Un v 1 none (some j) b∧b.ownBlock=v.ownBlock∧(∀ w T,Row w v T 1 a.length (pd ms)→Row w b T 1 c.length (pd d))∧Wd μ d c∧ms.take j.toNat=d:=by
 obtain ⟨⟨m,e,f⟩,rfl⟩:=Yp g;obtain ⟨b,qa,i,k⟩:=Row.ZB h e f;refine ⟨b,ms.take j.toNat,qa,i,fun w T l=>?_,by simpa using hm.take j.toNat,rfl⟩;have:=k w T l;have el:((a.take j.toNat).drop (0:Int).toNat).length=j.toNat:=by simp;omega
 rw [el];have xa:pd (ms.take j.toNat)=(pd ms).take (j.toNat*1):=by simp [pd]
 rw [xa];exact this
theorem _root_.Go.wc.Sep.perm {S Od:Nat→Prop}{A:World→Prop}(h:Sep S Od w0 w rs A) (a:rs.Perm rs'):Sep S Od w0 w rs' A where
 keeps:=h.keeps
 all r d:=h.all r (a.mem_iff.2 d)
 ki:=(a.filterMap _).nodup_iff.1 h.ki
 new b e:=h.new b ((a.filterMap _).mem_iff.2 e)
 Ci:=h.Ci.mono fun k _ c=>⟨c.1,fun hm=>c.2 ((a.filterMap Fb.block).mem_iff.2 hm)⟩
theorem _root_.Go.wc.Sep.xc {a p M R:List Fb}(h:la μ w0 w (a++(p++(M++R)))):la μ w0 w (a++(M++(p++R))):=
 h.perm (List.Perm.append_left a (by
  rw [← List.append_assoc,← List.append_assoc];exact List.Perm.append_right R List.perm_append_comm))
theorem _root_.Go.wc.Sep.Io {k:Nat}{v c:Value}{sz d:Nat}{xs e:List Value}{S Od:Nat→Prop}{A:World→Prop}(a:Sep S Od w0 w rs A) (f:yc rs k (.row v T sz n xs)) (l:c.ownBlock=v.ownBlock) (m:∀ w T,Row w v T sz n xs→Row w c T sz d e) (g:tc rs k (.row c T sz d e) rs'):Sep S Od w0 w rs' A:=by
 have h:Row w v T sz n xs:=a.get f;cases o:v.ownBlock with
 | some b=>exact a.put (b:=b) (r:=.row v T sz n xs) (r':=.row c T sz d e) f o (l.trans o) g (m _ _ h) (di.refl _)
 | none =>
  unfold tc at g;subst g;have j:=Uz (r':=.row c T sz d e) f (show c.ownBlock=v.ownBlock from l);refine ⟨a.keeps,fun r p=>?_,by rw [j];exact a.ki,by rw [j];exact a.new,by rw [j];exact a.Ci⟩;obtain ⟨i,cb⟩:=List.mem_iff_getElem?.1 p;rw [List.getElem?_set] at cb;split at cb
  ·split at cb
   ·cases cb;exact m _ _ h
   ·cases cb
  ·exact a.all r (List.mem_of_getElem? cb)
end
end Go.hd
namespace Go.hd
open Go.wc Go.RowKit
theorem Zb {P : Program} {f : FuncId} {fn : Func} (a : P.funcs[f]? = some fn) (b : fn.body.isSome = true := by rfl) (c : (fn.name == "runtime.NumGoroutine") = false := by kernel_rfl) : Lb P f := uF a b c
theorem je {P : Program}{T : TypeId}{d : TypeDesc}{Ef : Bool}{z : Value}{Ed : List Value}{n m : Nat}(hu : P.underlying T = some d) (a : jv d = Ef := by rfl) (h : (P.info? T).map (fun i => (i.zero, i.size, i.bytes)) = some (some z, n, m):= by kernel_rfl) (b : z.cells = ⟨Ed⟩ := by rfl) : Kc P T Ef Ed n m := RH hu a h b
end Go.hd
namespace Go.hd
open Go.wc Go.RowKit
theorem fh {v:Value}{l:List Value}(h:Kd v=true) (k:l.all Kd=true):(v::l).all Kd=true:=by simp [h,k]
theorem Wl:([]:List Value).all Kd=true:=rfl
theorem Hz (A vs:List Value) (o q N:Nat) (c:q+vs.length≤N) (d:o+N≤A.length):((A.take (o+q)++vs++A.drop (o+q+vs.length)).drop o).take N=((A.drop o).take N).take q++vs++((A.drop o).take N).drop (q+vs.length):=by
 apply List.ext_getElem?;intro j;simp only [List.getElem?_take,List.getElem?_drop,List.getElem?_append,List.length_append,List.length_take,List.length_drop];have qa:min (o+q) A.length=o+q:=by omega
 have a:min q (min N (A.length - o))=q:=by omega
 rw [qa,a];by_cases b:j<q
 ·have c2:j<N:=by omega
  have c3:j<q+vs.length:=by omega
  simp [b,c2,c3,show o+j<o+q by omega,show o+j<o+q+vs.length by omega]
 ·by_cases c2:j<q+vs.length
  ·rw [if_pos (by omega),if_pos (by omega),if_neg (by omega),if_pos (by omega),if_neg (by omega)];congr 1;omega
  ·by_cases c3:j<N
   ·rw [if_pos c3,if_neg (by omega),if_neg (by omega),if_pos (by omega)];congr 1;omega
   ·rw [if_neg c3,if_neg (by omega),if_neg (by omega)]
section
variable {P:Program}{Q:Exit→Act→World→Prop}{K:List Value→List Deferred→World→Prop}{fr V:List Value}{ds:List Deferred}{w:World}
variable {dst:Option Tmp}{ty:TypeId}{pos:String}{after:Array Edge}{g:Option (Nat×Bool)}
variable {w0:World}{rs rs':List Fb}{μ I:M}
variable {T:TypeId}{d:TypeDesc}{Ef:Bool}{Ed:List Value}{n m:Nat}
theorem Jl {x y:Operand}{b o off sz len k:Nat}{i:Int}{v e:Value}{vs xs j:List Value}{a:TypeId}{S Od:Nat→Prop}{A:World→Prop}(t:Kc P T Ef Ed n m) (u:pb fr x (.pointer (some ⟨b,o+off,none⟩))) (z:pb fr y e) (f:e.cells=⟨vs⟩) (B:vs.length=n) (C:vs.all Kd=true)
  (l:Sep S Od w0 w rs A) (p:yc rs k (.row v a sz len xs)) (he:Lj v sz i b o) (Y:off+vs.length≤sz) (D:xs.take (i.toNat*sz+off)++vs++xs.drop (i.toNat*sz+off+vs.length)=j) (F:tc rs k (.row v a sz len j) rs')
  (rb:rf fr dst undef V) (h:∀ w',Sep S Od w0 w' rs' A→K V ds w'):Md P (Oper.mk dst (.store T x y) ty pos after g) fr ds w K Q:=by
 have G:Row w v a sz len xs:=l.get p;obtain ⟨c,Z,c0,rfl,gc,hc,rfl⟩:=he.out;obtain ⟨hlen,d⟩:=G;rcases d with ⟨d,-⟩ | ⟨Sg,lc,cap,cur,d,H,q,M,rc,N⟩
 ·cases d
 ·cases d;have cb:i.toNat<len:=by omega
  have hmul:(i.toNat+1)*sz≤len*sz:=Nat.mul_le_mul_right _ cb;have fd:len*sz≤c0*sz:=Nat.mul_le_mul_right _ q;have id:(i.toNat+1)*sz=i.toNat*sz+sz:=Nat.succ_mul ..;have r:bj w b a cur.toList:=H;have hle:(c+i.toNat*sz+off)+0+vs.length≤(⟨cur.toList⟩:Array Value).size:=by simp;omega
  have s:=run_storeCells_at P b (c+i.toNat*sz+off) a vs 0 ⟨cur.toList⟩ w r hle fun v f=>bu (List.all_eq_true.1 C v f);have qa:e.cells.toList=vs:=by rw [f]
  have R:¬ (e.cells.size≠n):=by rw [f];simpa using B
  have U:=t.sizeOf (w:=w);simp only [Nat.add_zero] at s;have W:di (fun k=>k≠b) w (w.setRow b (cur.toList.take (c+i.toNat*sz+off)++vs++cur.toList.drop (c+i.toNat*sz+off+vs.length)).toArray):=⟨rfl,rfl,rfl,by simp [World.setRow],fun k md X=>setRow_other w b k _ X⟩;refine Oy ?_ rb (h _ (l.put (b:=b) p rfl rfl F ?_ W))
  ·simp only [execOp,Instr.storeAt,u ds,z ds,Instr.sureAddr,storeVar,Sem.run_bind,U,Result.andThen_ok,if_neg R,qa,s,Sem.run_pure]
  ·subst D;refine ⟨by simp [hlen];omega,.inr ⟨b,c,c0,_,rfl,setRow_heap w b ⟨cur.toList⟩ _ a (0,0) r,q,M,?_,?_⟩⟩
   ·simp;omega
   ·subst N;have:=Hz cur.toList vs c (i.toNat*sz+off) (len*sz) (by omega) (by simp;omega);rw [← Nat.add_assoc] at this;exact this
class TI (α β:Type) [Ta α] [Ta β] where
 code:α→List β
 set:α→List β→α
 rb:M→List Value→α→Prop
 up:∀ {μ I:M}{l:List Value}{x:α},ga μ I→rb μ l x→rb I l x
 nh:∀ {μ:M}{l:List Value}{x:α},rb μ l x→l.length+1=Ta.sz α
 wr:∀ {μ:M}{l:List Value}{x:α}{ys:List β}{a:Option Addr}{c:Nat},rb μ l x→ua μ a c ys→Ta.cs μ (l++[.slice a ys.length c]) (set x ys)
 st:∀ {μ:M}{l:List Value}{x:α}{ys:List β},rb μ l x→rb μ l (set x ys)
 Gj:∀ {x:α},set x (code x)=x
 cs:∀ {x:α}{ys:List β},code (set x ys)=ys
variable {α β:Type}[Ta α] [Ta β] [TI α β]
end
end Go.hd
namespace Go.wc
open Go.RowKit
section
variable {P:Program}{Q:Exit→Act→World→Prop}{ops:Array Oper}{fr V:List Value}{ds:List Deferred}{w:World}
end
end Go.wc
namespace Go.wc
open Go.RowKit
section
variable {P:Program}{Q:Exit→Act→World→Prop}{ops:Array Oper}{fr V:List Value}{ds:List Deferred}{w:World}
abbrev Mon:=List Nat×(World→Prop)
def Sh (i:Nat) (Rc:List Mon):List Mon:=Rc.filter fun m=>!m.1.contains i
def ob:List Mon→World→Prop
 | [],_=>True
 | m::l,w=>m.2 w∧ob l w
theorem ob.mem {Rc:List Mon}{w:World}:ob Rc w ↔ ∀ m ∈ Rc,m.2 w:=by
 induction Rc with
 | nil=>simp [ob]
 | cons m l a=>simp [ob,a]
theorem ob.sub {Rc Ns':List Mon}(h:ob Rc w) (a:∀ m ∈ Ns',m ∈ Rc):ob Ns' w:=ob.mem.2 fun m hm=>ob.mem.1 h m (a m hm)
theorem yu {i:Nat}{Rc:List Mon}:∀ m ∈ Sh i Rc,m ∈ Rc:=fun m hm=>(List.mem_filter.1 hm).1
theorem eu {i:Nat}{Rc Ns':List Mon}(h:∀ m ∈ Ns',m ∈ Rc):∀ m ∈ Sh i Ns',m ∈ Sh i Rc:=fun m hm=>List.mem_filter.2 ⟨h m (List.mem_filter.1 hm).1,(List.mem_filter.1 hm).2⟩
def Tg (P:Program) (ops:Array Oper) (Q:Exit→Act→World→Prop):List Mon→List Nat→Act→World→Prop
 | _,[],a,w=>Q .normal a w
 | Rc,i::rest,a,w =>
  match ops[i]? with
  | none=>Tg P ops Q (Sh i Rc) rest a w
  | some o =>
   if Region.wanted o (yielded ops a.tmps) then o.wp P a w (fun a w=>ob (Sh i Rc) w∧Tg P ops Q (Sh i Rc) rest a w) Q∨(o.asks P a w∧LetsOut Q)
   else Tg P ops Q (Sh i Rc) rest (a.put o.dst undef) w
theorem Yx {o:Oper}{a:Act}{K c:Act→World→Prop}(h:o.wp P a w K Q) (b:∀ a w,K a w→c a w):o.wp P a w c Q:=by
 unfold Oper.wp at h ⊢;cases d:(execOp a.eval o).run P w with
 | halt e w'=>rw [d] at h; cases e <;> exact h
 | ok r w' =>
  rw [d] at h;cases r with
  | value x=>exact b _ _ h
  | skip=>exact b _ _ h
  | defer i=>exact b _ _ h
  | enter f args =>
   rw [Oper.upon_enter] at h ⊢;refine Calls.mono h fun e g he=>?_;cases e with
   | returned x=>exact b _ _ he
   | panicked j=>exact he
   | outgrown=>exact he
  | row r args =>
   rw [Oper.upon_row] at h ⊢;exact Rows.mono h fun x g he=>b _ _ he
  | _=>exact h
theorem Tg.mono:∀ (b:List Nat){Rc Ns':List Mon}{a:Act}{w:World},Tg P ops Q Rc b a w→(∀ m ∈ Ns',m ∈ Rc)→Tg P ops Q Ns' b a w
 | [],_,_,_,_,h,_=>h
 | i::b,Rc,Ns',a,w,h,c=>by
  simp only [Tg] at h ⊢;cases d:ops[i]? with
  | none=>rw [d] at h; exact Tg.mono b h (eu c)
  | some o =>
   rw [d] at h;simp only at h ⊢;split
   ·rename_i hw;rw [if_pos hw] at h;rcases h with h | h
    ·exact .inl (Yx h fun a w ⟨e,f⟩=>⟨e.sub (eu c),Tg.mono b f (eu c)⟩)
    ·exact .inr h
   ·rename_i hw;rw [if_neg hw] at h;exact Tg.mono b h (eu c)
theorem Tg.plain:∀ (b:List Nat){Rc:List Mon}{a:Act}{w:World},Tg P ops Q Rc b a w→wpOps P ops Q b a w
 | [],_,_,_,h=>h
 | i::b,Rc,a,w,h=>by
  simp only [Tg] at h;simp only [wpOps];cases c:ops[i]? with
  | none=>rw [c] at h; exact Tg.plain b h
  | some o =>
   rw [c] at h;simp only at h ⊢;split
   ·rename_i hw;rw [if_pos hw] at h;rcases h with h | h
    ·exact .inl (Yx h fun a w ⟨_,d⟩=>Tg.plain b d)
    ·exact .inr h
   ·rename_i hw;rw [if_neg hw] at h;exact Tg.plain b h
theorem Qy (q:sh Q){N:World→Prop}{S:List Nat}{i d:Nat}{o:Oper}{v:Value}(A:ops[i]?=some o) (rb:o.dst=some d){wt:Bool}(B:wt=false→v=undef) :
  ∀ (a b:List Nat) (fr:List Value) (ds:List Deferred) (w:World) (Rc:List Mon),
   (∀ j ∈ a,j ∉ S∧match ops[j]? with
    | some p=>xj p.op=true∧(reads ops p).contains d=false∧p.dst≠some d∧(∀ e,p.dst=some e→(reads ops o).contains e=false)
    | none=>True) →
   N w→ob Rc w→xj o.op=true→Region.wanted o (yielded ops (F fr ds).tmps)=wt →
   (wt=true→∀ ds w,N w→(execOp (F fr ds).eval o).run P w=.ok (.value v) w) →
   Tg P ops Q ((S,N)::Rc) (a++b) (F (fr.set d v) ds) w→Tg P ops Q Rc (a++i::b) (F fr ds) w
 | [],b,fr,ds,w,Rc,_,hw,s,t,c,u,h=>by
  simp only [List.nil_append] at h ⊢;have h:=Tg.mono b h (Ns':=Sh i Rc) fun m hm=>List.mem_cons_of_mem _ (yu m hm);simp only [Tg,A];cases wt with
  | true =>
   rw [if_pos c];left;unfold Oper.wp;rw [u rfl ds w hw,Oper.upon_value,rb];rw [show (F fr ds).put (some d) v=F (fr.set d v) ds from ia rfl ds];exact ⟨s.sub yu,h⟩
  | false =>
   rw [if_neg (by rw [c];simp),rb,← B rfl];rw [show (F fr ds).put (some d) v=F (fr.set d v) ds from ia rfl ds];exact h
 | j::a,b,fr,ds,w,Rc,K,hw,s,t,c,u,h=>by
  obtain ⟨Y,C⟩:=K j (by simp);have M:∀ k ∈ a,_:=fun k l=>K k (by simp [l]);have Z:Sh j ((S,N)::Rc)=(S,N)::Sh j Rc:=by simp [Sh,Y]
  simp only [List.cons_append,Tg,Z] at h ⊢;cases R:ops[j]? with
  | none =>
   rw [R] at h;simp only at h ⊢;exact Qy q A rb B a b fr ds w _ M hw (s.sub yu) t c u h
  | some p =>
   rw [R] at h C;simp only at h C ⊢;obtain ⟨T,D,gc,U⟩:=C;rw [tw (fr:=fr) (v:=v) (ds:=ds) (ds':=ds) D] at h;have key:∀ (x:Value) (w':World) (ds':List Deferred),N w'→ob (Sh j Rc) w'→Tg P ops Q ((S,N)::Sh j Rc) (a++b) ((F (fr.set d v) ds').put p.dst x) w'→Tg P ops Q (Sh j Rc) (a++i::b) ((F fr ds').put p.dst x) w':=by
    intro x w' ds' hc lc l;obtain ⟨g,g1,g2,g3⟩:=put_eq fr ds' p.dst x;have rc:=wanted_put (ops:=ops) (o:=o) (p:=p) (ds':=ds') (fun y G=>g3 fr y ds' ds' G) U;rw [g1] at l ⊢;rw [g2 _ _ _ gc] at l;refine Qy q A rb B a b (g fr) ds' w' _ M hc lc t (rc.trans c) (fun fd n id md=>?_) l;rw [show execOp (F (g fr) n).eval o=execOp (F fr n).eval o from execOp_congr o t fun y G=>g3 fr y n n fun e he rd=>by
     exact cu (U e he) y G rd]
    exact u fd n id md
   by_cases W:Region.wanted p (yielded ops (F fr ds).tmps)=true
   ·rw [if_pos W] at h ⊢;rcases h with h | h
    ·left;unfold Oper.wp at h ⊢;rw [Dp (ds':=ds) T D] at h;cases X:(execOp (F fr ds).eval p).run P w with
     | halt e w' =>
      rw [X] at h;cases e<;>first | exact h | exact q _ (F (fr.set d v) ds) _ w' rfl h
     | ok r w' =>
      rw [X] at h;cases r with
      | value x=>exact ⟨h.1.2,key x w' ds h.1.1 h.1.2 h.2⟩
      | skip=>exact ⟨h.1.2,key undef w' ds h.1.1 h.1.2 h.2⟩
      | defer wd=>exact ⟨h.1.2,key undef w' (wd::ds) h.1.1 h.1.2 h.2⟩
      | enter f args =>
       rw [Oper.upon_enter] at h ⊢;refine Calls.mono h fun e z he=>?_;cases e with
       | returned x=>exact ⟨he.1.2,key x z ds he.1.1 he.1.2 he.2⟩
       | panicked Fd=>exact q Fd (F (fr.set d v) ds) _ z rfl he
       | outgrown=>exact he
      | row r args =>
       rw [Oper.upon_row] at h ⊢;exact Rows.mono h fun x z he=>⟨he.1.2,key x z ds he.1.1 he.1.2 he.2⟩
      | _=>exact h
    ·right;refine ⟨?_,h.2⟩;have H:=h.1;unfold Oper.asks at H ⊢;rw [Dp (ds':=ds) T D] at H;exact H
   ·rw [if_neg W] at h ⊢;exact key undef w ds hw (s.sub yu) h
structure xg (P:Program) (ops:Array Oper) (Q:Exit→Act→World→Prop) (Rc:List Mon) (R:List Nat) (fr:List Value) (ds:List Deferred) (w:World):Prop where
 out:ob Rc w→∀ a,ek ops R a→Tg P ops Q Rc a (F fr ds) w
theorem lf {R:List Nat}(h:xg P ops Q [] R fr ds w):sf P ops Q R fr ds w:=⟨fun a b=>Tg.plain a (h.out trivial a b)⟩
theorem We {Rc:List Mon}(h:Q .normal (F fr ds) w):xg P ops Q Rc [] fr ds w:=⟨fun _ b a=>by
 cases a with
 | z=>exact h
 | s h _=>exact absurd (Xk h) (by simp)⟩
def sk (ops:Array Oper) (S R:List Nat) (i:Nat):Bool :=
 match ops[i]? with
 | some o=>match o.dst with
  | some d=>xj o.op && R.all fun j=>S.contains j || (match ops[j]? with
    | some p=>xj p.op && !(reads ops p).contains d && p.dst != some d && (match p.dst with | some e=>!(reads ops o).contains e | none=>true)
    | none=>true)
  | _=>false
 | none=>false
theorem Vq {Rc:List Mon}{R Nd:List Nat}{i:Nat}(S:List Nat) (N:World→Prop){wt:Bool}{dst:Tmp}{op:Op}{ty:TypeId}{pos:String}{after:Array Edge}{l:Option (Nat×Bool)}{v:Value}(C:sh Q) (m:(decide R.Nodup && enabled ops R i && waits ops R S i && sk ops S R i && S.contains i)=true) (D:R.erase i=Nd) (n:ops[i]?=some ⟨some dst,op,ty,pos,after,l⟩)
  (G:Region.wanted ⟨some dst,op,ty,pos,after,l⟩ (yielded ops (F fr ds).tmps)=wt) (H:wt=false→v=undef) (o:N w)
  (K:wt=true→∀ ds w',N w'→(execOp (F fr ds).eval ⟨some dst,op,ty,pos,after,l⟩).run P w'=.ok (.value v) w') (f:tc fr dst v V) (h:xg P ops Q ((S,N)::Rc) Nd V ds w):xg P ops Q Rc R fr ds w:=⟨fun q Z r=>by
 simp only [Bool.and_eq_true,decide_eq_true_eq] at m;obtain ⟨⟨⟨⟨s,t⟩,u⟩,g⟩,-⟩:=m;obtain ⟨x,y,rfl,M,z⟩:=r.split s (Xk t) t;have A:=ek.later (S:=S) r s (fun j d=>by
  unfold waits at u;have:=List.all_eq_true.1 u j d;simp only [Bool.or_eq_true,beq_iff_eq,List.any_eq_true,Bool.and_eq_true,List.contains_iff_mem] at this;rcases this with h | ⟨k,k1,T,U⟩
  ·exact .inl h
  ·exact .inr ⟨k,k1,T,U⟩) x y rfl (fun hm=>(z i hm).2.1 rfl)
 unfold sk at g;simp only [n,Bool.and_eq_true,List.all_eq_true,Bool.or_eq_true,List.contains_iff_mem] at g;unfold tc at f;subst f;subst D;refine Qy C n rfl H (N:=N) (S:=S) (v:=v) x y fr ds w Rc (fun j d=>⟨A j d,?_⟩) o q g.1 G K (h.out ⟨o,q⟩ _ M);obtain ⟨a,b,c⟩:=z j d;have:=g.2 j a;rcases this with h | h
 ·exact absurd h (A j d)
 ·cases f:ops[j]? with
  | none=>trivial
  | some p =>
   rw [f] at h;simp only [Bool.and_eq_true,Bool.not_eq_true',bne_iff_ne,ne_eq] at h;obtain ⟨⟨⟨W,X⟩,Y⟩,B⟩:=h;refine ⟨W,X,Y,fun e he=>?_⟩;rw [he] at B;simpa using B⟩
theorem hl {Rc:List Mon}{R Nd:List Nat}{i:Nat}(S:List Nat){dst:Tmp}{op:Op}{ty:TypeId}{pos:String}{after:Array Edge}{v:Value}(a:sh Q) (b:(decide R.Nodup && enabled ops R i && waits ops R S i && sk ops S R i && S.contains i)=true) (c:R.erase i=Nd) (d:ops[i]?=some ⟨some dst,op,ty,pos,after,none⟩)
  (e:Yj P ⟨some dst,op,ty,pos,after,none⟩ fr w v) (f:tc fr dst v V) (h:xg P ops Q ((S,fun w'=>Yj P ⟨some dst,op,ty,pos,after,none⟩ fr w' v)::Rc) Nd V ds w):xg P ops Q Rc R fr ds w :=
 Vq S _ (wt:=true) a b c d (hb rfl) (fun h=>by cases h) e (fun _ ds w' hw=>hw.out ds) f h
theorem IG {Rc:List Mon}{R Nd:List Nat}{i j d:Nat}{b:Bool}(S:List Nat){dst:Tmp}{op:Op}{ty:TypeId}{pos:String}{after:Array Edge}{v:Value}(a:sh Q) (c:(decide R.Nodup && enabled ops R i && waits ops R S i && sk ops S R i && S.contains i)=true) (e:R.erase i=Nd) (f:ops[i]?=some ⟨some dst,op,ty,pos,after,some (j,b)⟩) (g:(ops[j]?).bind (·.dst)=some d) (k:yc fr d (.bool b))
  (l:Yj P ⟨some dst,op,ty,pos,after,some (j,b)⟩ fr w v) (m:tc fr dst v V) (h:xg P ops Q ((S,fun w'=>Yj P ⟨some dst,op,ty,pos,after,some (j,b)⟩ fr w' v)::Rc) Nd V ds w):xg P ops Q Rc R fr ds w :=
 Vq S _ (wt:=true) a c e f (Fp rfl g k) (fun h=>by cases h) l (fun _ ds w' hw=>hw.out ds) m h
theorem Tg.add {m:Mon}(c:∀ w,m.2 w):∀ (b:List Nat){Rc:List Mon}{a:Act}{w:World},Tg P ops Q Rc b a w→Tg P ops Q (m::Rc) b a w
 | [],_,_,_,h=>h
 | i::b,Rc,a,w,h=>by
  have d:Sh i (m::Rc)=m::Sh i Rc∨Sh i (m::Rc)=Sh i Rc:=by
   unfold Sh;rw [List.filter_cons];split
   ·exact .inl rfl
   ·exact .inr rfl
  have key:∀ {a w},Tg P ops Q (Sh i Rc) b a w→Tg P ops Q (Sh i (m::Rc)) b a w:=fun h=>by
   rcases d with e | e<;>rw [e]
   ·exact Tg.add c b h
   ·exact h
  have g:∀ {w},ob (Sh i Rc) w→ob (Sh i (m::Rc)) w:=fun h=>by
   rcases d with e | e<;>rw [e]
   ·exact ⟨c _,h⟩
   ·exact h
  simp only [Tg] at h ⊢;cases f:ops[i]? with
  | none=>rw [f] at h; exact key h
  | some o =>
   rw [f] at h;simp only at h ⊢;split
   ·rename_i hw;rw [if_pos hw] at h;rcases h with h | h
    ·exact .inl (Yx h fun a w ⟨j,k⟩=>⟨g j,key k⟩)
    ·exact .inr h
   ·rename_i hw;rw [if_neg hw] at h;exact key h
theorem Zx {Rc:List Mon}{m:Mon}{R:List Nat}(b:∀ w,m.2 w) (h:xg P ops Q Rc R fr ds w):xg P ops Q (m::Rc) R fr ds w:=⟨fun c a d=>Tg.add b a (h.out c.2 a d)⟩
theorem Jh {Rc:List Mon}{R Nd:List Nat}{i:Nat}(S:List Nat){dst:Tmp}{op:Op}{ty:TypeId}{pos:String}{after:Array Edge}{v:Value}(a:sh Q) (b:(decide R.Nodup && enabled ops R i && waits ops R S i && sk ops S R i && S.contains i)=true) (c:R.erase i=Nd) (d:ops[i]?=some ⟨some dst,op,ty,pos,after,none⟩)
  (e:bf P ⟨some dst,op,ty,pos,after,none⟩ fr v) (f:tc fr dst v V) (h:xg P ops Q Rc Nd V ds w):xg P ops Q Rc R fr ds w :=
 Vq S (fun _=>True) (wt:=true) a b c d (hb rfl) (fun h=>by cases h) trivial (fun _ ds w' _=>e.out ds w') f (Zx (fun _=>trivial) h)
theorem JG {Rc:List Mon}{R Nd:List Nat}{i j d:Nat}{b:Bool}(S:List Nat){dst:Tmp}{op:Op}{ty:TypeId}{pos:String}{after:Array Edge}{v:Value}(a:sh Q) (c:(decide R.Nodup && enabled ops R i && waits ops R S i && sk ops S R i && S.contains i)=true) (e:R.erase i=Nd) (f:ops[i]?=some ⟨some dst,op,ty,pos,after,some (j,b)⟩) (g:(ops[j]?).bind (·.dst)=some d) (k:yc fr d (.bool b))
  (l:bf P ⟨some dst,op,ty,pos,after,some (j,b)⟩ fr v) (m:tc fr dst v V) (h:xg P ops Q Rc Nd V ds w):xg P ops Q Rc R fr ds w :=
 Vq S (fun _=>True) (wt:=true) a c e f (Fp rfl g k) (fun h=>by cases h) trivial (fun _ ds w' _=>l.out ds w') m (Zx (fun _=>trivial) h)
theorem KG {Rc:List Mon}{R Nd:List Nat}{i j d:Nat}{b b':Bool}(S:List Nat){dst:Tmp}{op:Op}{ty:TypeId}{pos:String}{after:Array Edge}(a:sh Q) (c:(decide R.Nodup && enabled ops R i && waits ops R S i && sk ops S R i && S.contains i)=true) (e:R.erase i=Nd) (f:ops[i]?=some ⟨some dst,op,ty,pos,after,some (j,b)⟩) (g:(ops[j]?).bind (·.dst)=some d) (k:yc fr d (.bool b')) (l:(b' == b)=false)
  (m:tc fr dst undef V) (h:xg P ops Q Rc Nd V ds w):xg P ops Q Rc R fr ds w :=
 Vq S (fun _=>True) (wt:=false) a c e f ((du rfl g k).trans l) (fun _=>rfl) trivial (fun h=>by cases h) m (Zx (fun _=>trivial) h)
structure Av (P:Program) (ops:Array Oper) (Q:Exit→Act→World→Prop) (Rc:List Mon) (R:List Nat) (fr:List Value) (ds:List Deferred) (w:World):Prop where
 m:ob Rc w
 s:xg P ops Q Rc R fr ds w
theorem ob.s {m:Mon}{l:List Mon}(h:m.2 w) (k:ob l w):ob (m::l) w:=⟨h,k⟩
theorem ob.z:ob [] w:=trivial
theorem CB {Rc:List Mon}{R:List Nat}(c:R≠[]) (h:∀ i ∈ Fo ops R,∃ o,ops[i]?=some o∧Region.wanted o (yielded ops (F fr ds).tmps)=true∧Md P o fr ds w (Av P ops Q (Sh i Rc) (R.erase i)) Q):xg P ops Q Rc R fr ds w:=⟨fun j d e=>by
 cases e with
 | z=>exact absurd rfl c
 | @s _ d i b f =>
  obtain ⟨o,g,hw,cb⟩:=h i (List.mem_filter.2 ⟨Xk b,b⟩);simp only [Tg,g];rw [if_pos hw];exact .inl (cb.out _ fun V ds' w' a=>⟨a.m,a.s.out a.m _ f⟩)⟩
theorem gd {Rc Ns':List Mon}{R:List Nat}{i:Nat}{Nd:List Nat}{o:Oper}(b:Fo ops R=[i]) (c:R.erase i=Nd) (rb:Sh i Rc=Ns') (d:ops[i]?=some o) (hw:Region.wanted o (yielded ops (F fr ds).tmps)=true)
  (h:Md P o fr ds w (Av P ops Q Ns' Nd) Q):xg P ops Q Rc R fr ds w :=
 CB (by intro e;subst e;cases b) fun k a=>by
  rw [b] at a;simp at a;subst a;exact ⟨_,d,hw,by rw [c,rb];exact h⟩
theorem nC {Rc d f:List Mon}{R:List Nat}{i j:Nat}{g h:List Nat}{a b:Oper}(l:Fo ops R=[i,j]) (m:R.erase i=g) (n:R.erase j=h) (o:Sh i Rc=d) (p:Sh j Rc=f) (cb:ops[i]?=some a) (q:ops[j]?=some b) (r:Region.wanted a (yielded ops (F fr ds).tmps)=true) (s:Region.wanted b (yielded ops (F fr ds).tmps)=true)
  (t:Md P a fr ds w (Av P ops Q d g) Q) (u:Md P b fr ds w (Av P ops Q f h) Q):xg P ops Q Rc R fr ds w :=
 CB (by intro e;subst e;cases l) fun k c=>by
  rw [l] at c;simp at c;rcases c with rfl | rfl
  ·exact ⟨_,cb,r,by rw [m,o];exact t⟩
  ·exact ⟨_,q,s,by rw [n,p];exact u⟩
theorem OI {Rc:List Mon}{R:List Nat}{Vg Wg:List Value}{d:Nat}{b:Bool}(a:yc fr d (.bool b)) (c:tc fr d (.bool true) Vg) (e:tc fr d (.bool false) Wg)
  (f:b=true→xg P ops Q Rc R Vg ds w) (g:¬ b=true→xg P ops Q Rc R Wg ds w):xg P ops Q Rc R fr ds w:=by
 cases b with
 | true=>have:=f rfl; rw [tc.same a c] at this; exact this
 | false=>have:=g (by simp); rw [tc.same a e] at this; exact this
theorem Ry {Rc:List Mon}{R:List Nat}{Vg Wg:List Value}{d:Nat}{p:Prop}[Decidable p] (a:yc fr d (.bool (decide p))) (b:tc fr d (.bool true) Vg) (c:tc fr d (.bool false) Wg)
  (e:p→xg P ops Q Rc R Vg ds w) (f:¬ p→xg P ops Q Rc R Wg ds w):xg P ops Q Rc R fr ds w :=
 OI a b c (fun h=>e (of_decide_eq_true h)) (fun h=>f fun g=>h (decide_eq_true g))
end
end Go.wc
namespace Go.hd
open Go.wc Go.RowKit
section
variable {P:Program}{Q:Exit→Act→World→Prop}{K:List Value→List Deferred→World→Prop}{fr V:List Value}{ds:List Deferred}{w:World}
variable {dst:Option Tmp}{ty:TypeId}{pos:String}{after:Array Edge}{g:Option (Nat×Bool)}
variable {w0:World}{rs rs':List Fb}{μ I:M}
variable {T:TypeId}{d:TypeDesc}{Ef:Bool}{Ed:List Value}{n m:Nat}
theorem LG {e:TypeId}{S Od:Nat→Prop}{A:World→Prop}(c:P.underlying T=some (.slice e)) (a:Kc P e Ef Ed n m) (d:Sep S Od w0 w rs A)
  (h:∀ b w',w.heap.size≤b→Sep S Od w0 w' (.ba b e []::rs) A→Og fr dst (.slice (some ⟨b,0,none⟩) 0 0) fun V=>K V ds w'):Md P (Oper.mk dst (.buildSlice T 0 ⟨[]⟩) ty pos after g) fr ds w K Q:=by
 obtain ⟨V,rb⟩:=Ih fr dst (.slice (some ⟨w.heap.size,0,none⟩) 0 0);refine bh (v:=.slice (some ⟨w.heap.size,0,none⟩) 0 0) (w':=w.alloc (.cells ⟨[]⟩ e)) ?_ rb (h _ _ (Nat.le_refl _) (d.alloc rfl (heap_alloc_new w _)) V rb);have f:=a.sizeOf (w:=w);obtain ⟨z,i,hc⟩:=a.zero (w:=w);simp [execOp,Instr.buildSlice,Sem.run_bind,run_underlying c,Result.andThen_ok,f,newRow,Instr.fill];have Qa:Array.range 0=#[]:=Array.eq_empty_of_size_eq_zero (by simp);rw [Qa,Array.map_empty]
theorem uz {t ty:TypeId}{sz bytes:Nat}(b:P.underlying t=some (.slice T)) (e:Kc P T Ef Ed sz bytes){v:Value}{xs:List Value}(f:Row w v T sz n xs){a:Option Addr}{c:Nat} :
  (Builtin.append_ #[t,t] ty #[v,.slice a 0 c]).run P w=.ok v w:=by
 have d:=e.sizeOf (w:=w);rcases f.2 with ⟨rfl,rfl⟩ | ⟨g,o,cap,cur,rfl,i,h,j,k,l⟩
 ·cases a<;>simp [Builtin.append_,run_underlying b,d,Builtin.lenOf,Builtin.firstCells,loadCells,loadCellsFrom]
 ·cases a<;>simp [Builtin.append_,run_underlying b,d,Builtin.lenOf,Builtin.firstCells,h,storeCells,loadCells,loadCellsFrom]
theorem Qu {α:Type}[Ta α]{t:TypeId}{s x:Operand}{v:Value}{bytes k c:Nat}{a:Option Addr}{cells news:List Value}{l ys j:List α}(n:P.underlying t=some (.slice T)) (p:Kc P T Ef Ed (Ta.sz α) bytes) (z:Ed.length=Ta.sz α)
  (q:pb fr s v) (r:pb fr x (.slice a ys.length c)) (f:la μ w0 w rs) (m:yc rs k (.row v T (Ta.sz α) l.length cells)) (A:ys≠[]→∃ b o,a=some ⟨b,o,none⟩∧uc μ b o news) (d:ma μ news ys) (B:app l ys=some j) (C:bytes≤4096)
  (h:∀ i w' rs',tc rs k (.row i T (Ta.sz α) j.length (cells++news)) rs'→la μ w0 w' rs'→Og fr dst i fun V=>K V ds w') :
  Md P (Oper.mk dst (.call { callee:=.builtin .append,args:=#[s,x],argTypes:=#[t,t] }) ty pos after g) fr ds w K Q:=by
 obtain ⟨u,D⟩:=wu B;by_cases y:ys=[]
 ·subst y;obtain rfl:news=[]:=d;have F:Row w v T (Ta.sz α) l.length cells:=f.get m;obtain ⟨V,rb⟩:=Ih fr dst v;have G:=h v w rs (by
   have:j.length=l.length:=by simpa using u
   rw [this,List.append_nil];unfold tc;obtain ⟨H,e⟩:=List.getElem?_eq_some_iff.1 (show rs[k]?=_ from m);rw [← e];exact List.set_getElem_self H) f
  refine bh (v:=v) (w':=w) ?_ rb (G V rb);have qa:=q ds;have M:=r ds;have d:=uz (P:=P) (ty:=ty) (a:=a) (c:=c) n p F;simp [execOp,resolve,invoke,builtin,qa,M,d]
 ·obtain ⟨b,o,rfl,N⟩:=A y;exact Uq n p (by simp [z,Ta.pos]) q r f m (N _ f.a) d.len d.Rg ⟨D,C⟩ fun i w' rs' R=>h i w' rs' (by rw [u];exact R)
end
end Go.hd
