/- The shelf: texts of Xt. -/
import Derived.Test.YthdpoglpdpfnbaaGreatDoorCWk
import Derived.LoopN
import Derived.KernelRfl
set_option linter.unusedSimpArgs false
set_option linter.unusedVariables false
set_option linter.unusedSectionVars false
namespace Go.jd
open Go.vc Go.RowKit
abbrev M:=World→Prop
def ga (μ J:M):Prop:=∀ w,J w→μ w
theorem ga.r {μ:M}:ga μ μ:=fun _ h=>h
theorem ga.t {a b c:M}(h:ga a b) (k:ga b c):ga a c:=fun w x=>h w (k w x)
abbrev la (μ:M) (w0 w:World) (rs:List Gb):Prop:=Sep (fun _=>False) (fun _=>True) w0 w rs μ
def xc (μ:M) (b o:Nat) (cs:List Value):Prop:=∀ w,μ w→bj w b o cs
theorem xc.up {μ J:M}{b o:Nat}{cs:List Value}(h:xc μ b o cs) (l:ga μ J):xc J b o cs:=fun w k=>h w (l w k)
class Wa (α:Type) where
 sz:Nat
 pos:0<sz
 cs:M→List Value→α→Prop
 sh:∀ {μ:M}{l:List Value}{x:α},cs μ l x→l.length=sz
 up:∀ {μ J:M}{l:List Value}{x:α},ga μ J→cs μ l x→cs J l x
 Ug:∀ {μ:M}{l:List Value}{x:α},cs μ l x→l.all Od=true
structure Ec {α:Type}(sz:Nat) (R:List Value→α→Prop) (μ:M) (a:Option Addr) (c:Nat) (xs:List α):Prop where
 le:xs.length≤c
 cap:c≤maxLen
 el:xs=[]∨∃ b o,a=some ⟨b,o,none⟩∧∃ g:Nat→List Value,∀ i x,xs[i]?=some x→xc μ b (o+i*sz) (g i)∧R (g i) x
abbrev wa {α:Type}[Wa α] (μ:M) (a:Option Addr) (c:Nat) (xs:List α):Prop:=Ec (Wa.sz α) (Wa.cs μ) μ a c xs
theorem Ec.imp {α:Type}{sz:Nat}{R Rd:List Value→α→Prop}{μ J:M}{a:Option Addr}{c:Nat}{xs:List α}(h:Ec sz R μ a c xs) (l:ga μ J) (f:∀ (i:Nat) (cs:List Value) (x:α),xs[i]?=some x→R cs x→Rd cs x):Ec sz Rd J a c xs where
 le:=h.le
 cap:=h.cap
 el:=by
  rcases h.el with h | ⟨b,o,j,g,e⟩
  ·exact .inl h
  ·exact .inr ⟨b,o,j,g,fun i x d=>⟨(e i x d).1.up l,f i _ x d (e i x d).2⟩⟩
theorem wa.up {α:Type}[Wa α]{μ J:M}{a:Option Addr}{c:Nat}{xs:List α}(h:wa μ a c xs) (l:ga μ J):wa J a c xs:=Ec.imp h l fun _ _ _ _=>Wa.up l
theorem wa.nil {α:Type}[Wa α]{μ:M}{a:Option Addr}:wa (α:=α) μ a 0 []:=⟨by simp,by simp,.inl rfl⟩
theorem wa.len {α:Type}{sz:Nat}{R:List Value→α→Prop}{μ:M}{a:Option Addr}{c:Nat}{xs:List α}(h:Ec sz R μ a c xs):xs.length≤9223372036854775807:=Nat.le_trans h.le h.cap
instance:Wa Int where
 sz:=1
 pos:=by decide
 cs _ l x:=l=[.int .i64 x]
 sh h:=by rw [h];rfl
 up _ h:=h
 Ug h:=by rw [h];rfl
instance:Wa Bool where
 sz:=1
 pos:=by decide
 cs _ l x:=l=[.bool x]
 sh h:=by rw [h];rfl
 up _ h:=h
 Ug h:=by rw [h];rfl
instance {α:Type}[Wa α]:Wa (List α) where
 sz:=1
 pos:=by decide
 cs μ l xs:=∃ a c,l=[.slice a xs.length c]∧wa μ a c xs
 sh h:=by obtain ⟨a,c,rfl,-⟩:=h;rfl
 up l h:=by obtain ⟨a,c,b,d⟩:=h;exact ⟨a,c,b,d.up l⟩
 Ug h:=by obtain ⟨a,c,rfl,-⟩:=h;rfl
instance:Wa (List UInt8) where
 sz:=1
 pos:=by decide
 cs _ l x:=l=[S x]
 sh h:=by rw [h];rfl
 up _ h:=h
 Ug h:=by rw [h];rfl
def i64 (n:Int):Option Int:=if -9223372036854775808≤n∧n≤9223372036854775807 then some n else none
def Nf (n:Int):Int:=IntKind.i64.wrap n
def at_ {α:Type}(l:List α) (i:Int):Option α:=if 0≤i then l[i.toNat]? else none
def cut {α:Type}(l:List α) (i j:Int):Option (List α):=if 0≤i∧i≤j∧j≤l.length then some ((l.take j.toNat).drop i.toNat) else none
def cat (a b:List UInt8):Option (List UInt8):=if a.length+b.length≤9223372036854775807 then some (a++b) else none
def app {α:Type}(l:List α) (xs:List α):Option (List α):=if l.length+xs.length≤4294967296 then some (l++xs) else none
def quo (a b:Int):Option Int:=if b=0 then none else some (Nf (a.tdiv b))
theorem da {α β:Type}{o:Option α}{f:α→Option β}{r:β}(h:Option.bind o f=some r):∃ x,o=some x∧f x=some r:=Option.bind_eq_some_iff.1 h
theorem xe {α:Type}{c:Prop}[Decidable c]{x y:α}{r:α}(hc:c) (h:(if c then x else y)=r):x=r:=by rwa [if_pos hc] at h
theorem pb {α:Type}{c:Prop}[Decidable c]{x y:α}{r:α}(hc:¬ c) (h:(if c then x else y)=r):y=r:=by rwa [if_neg hc] at h
theorem UG {n x:Int}(h:i64 n=some x):x=n∧-9223372036854775808≤n∧n≤9223372036854775807:=by
 unfold i64 at h;split at h
 ·rename_i hc;exact ⟨(Option.some.inj h).symm,hc⟩
 ·cases h
theorem ox {n x:Int}(h:i64 n=some x):IntKind.i64.wrap n=x:=by
 obtain ⟨rfl,a,b⟩:=UG h;exact wr (by omega)
theorem Hr {α:Type}{l:List α}{i:Int}{x:α}(h:at_ l i=some x):0≤i∧i<l.length∧l[i.toNat]?=some x:=by
 unfold at_ at h;split at h
 ·rename_i hc;refine ⟨hc,?_,h⟩;have:=(List.getElem?_eq_some_iff.1 h).1;omega
 ·cases h
theorem gq {α:Type}{l ys:List α}{i j:Int}(h:cut l i j=some ys):(0≤i∧i≤j∧j≤l.length)∧ys=(l.take j.toNat).drop i.toNat:=by
 unfold cut at h;split at h
 ·rename_i hc;exact ⟨hc,(Option.some.inj h).symm⟩
 ·cases h
theorem VG {a b c:List UInt8}(h:cat a b=some c):c=a++b∧a.length+b.length≤9223372036854775807:=by
 unfold cat at h;split at h
 ·rename_i hc;exact ⟨(Option.some.inj h).symm,hc⟩
 ·cases h
theorem Yu {α:Type}{a b c:List α}(h:app a b=some c):c=a++b∧a.length+b.length≤4294967296:=by
 unfold app at h;split at h
 ·rename_i hc;exact ⟨(Option.some.inj h).symm,hc⟩
 ·cases h
structure Qj (v:Value) (sz:Nat) (i:Int) (b o:Nat):Prop where
 out:∃ a n c,v=.slice (some ⟨b,a,none⟩) n c∧0≤i∧i<n∧a+i.toNat*sz=o
theorem Ec.elem {α:Type}{sz:Nat}{R:List Value→α→Prop}{μ:M}{a:Option Addr}{c:Nat}{xs:List α}{i:Int}{x:α}(h:Ec sz R μ a c xs) (g:at_ xs i=some x) :
  ∃ b o cs,Qj (.slice a xs.length c) sz i b o∧xc μ b o cs∧R cs x:=by
 obtain ⟨j,k,d⟩:=Hr g;rcases h.el with rfl | ⟨b,o,rfl,f,e⟩
 ·simp at d
 ·exact ⟨b,_,f i.toNat,⟨o,_,_,rfl,j,k,rfl⟩,(e _ _ d).1,(e _ _ d).2⟩
def ma {α:Type}[Wa α] (μ:M):List Value→List α→Prop
 | cells,[]=>cells=[]
 | cells,x::l=>∃ cs t,cells=cs++t∧Wa.cs μ cs x∧ma μ t l
theorem ma.len {α:Type}[Wa α]{μ:M}:∀ {l:List α}{cells:List Value},ma μ cells l→cells.length=l.length*Wa.sz α
 | [],cells,h=>by rw [ma] at h; simp [h]
 | x::l,cells,h=>by
  rw [ma] at h;obtain ⟨cs,t,rfl,a,b⟩:=h;simp [ma.len b,Wa.sh a,Nat.add_mul,Nat.add_comm]
theorem ma.up {α:Type}[Wa α]{μ J:M}(a:ga μ J):∀ {l:List α}{cells:List Value},ma μ cells l→ma J cells l
 | [],cells,h=>by rw [ma] at h ⊢; exact h
 | x::l,cells,h=>by
  rw [ma] at h ⊢;obtain ⟨cs,t,b,c,d⟩:=h;exact ⟨cs,t,b,Wa.up a c,ma.up a d⟩
theorem ma.cat {α:Type}[Wa α]{μ:M}{b:List α}{a:List Value}(k:ma μ a b):∀ {l:List α}{cells:List Value},ma μ cells l→ma μ (cells++a) (l++b)
 | [],cells,h=>by rw [ma] at h; subst h; exact k
 | x::l,cells,h=>by
  rw [ma] at h;obtain ⟨cs,t,rfl,c,d⟩:=h;rw [List.cons_append,ma];exact ⟨cs,t++a,by simp,c,ma.cat k d⟩
theorem ma.nil {α:Type}[Wa α]{μ:M}:ma μ [] ([]:List α):=rfl
theorem ma.one {α:Type}[Wa α]{μ:M}{cs:List Value}{x:α}(h:Wa.cs μ cs x):ma μ cs [x]:=⟨cs,[],by simp,h,rfl⟩
theorem ma.cons {α:Type}[Wa α]{μ:M}{cs t:List Value}{x:α}{l:List α}(h:Wa.cs μ cs x) (k:ma μ t l):ma μ (cs++t) (x::l):=⟨cs,t,rfl,h,k⟩
theorem ma.Ug {α:Type}[Wa α]{μ:M}:∀ {l:List α}{cells:List Value},ma μ cells l→cells.all Od=true
 | [],cells,h=>by rw [ma] at h; simp [h]
 | x::l,cells,h=>by
  rw [ma] at h;obtain ⟨cs,t,rfl,a,b⟩:=h;rw [List.all_append,Wa.Ug a,ma.Ug b];rfl
theorem ma.get {α:Type}[Wa α]{μ:M}:∀ {l:List α}{cells:List Value}{i:Nat}{x:α},ma μ cells l→l[i]?=some x→Wa.cs μ ((cells.drop (i*Wa.sz α)).take (Wa.sz α)) x
 | [],cells,i,x,h,a=>by simp at a
 | y::l,cells,i,x,h,a=>by
  rw [ma] at h;obtain ⟨cs,t,rfl,b,c⟩:=h;cases i with
  | zero=>simp at a; subst a; simp [← Wa.sh b]; exact b
  | succ i =>
   simp at a;have:=ma.get c a;have e:(i+1)*Wa.sz α=cs.length+i*Wa.sz α:=by rw [Nat.add_mul,Wa.sh b];omega
   rw [e,← List.drop_drop];simpa using this
theorem wa.cells {α:Type}[Wa α]{μ:M}{a:Option Addr}{c:Nat}:∀ {xs:List α},wa μ a c xs→∃ cells,ma μ cells xs∧(xs≠[]→∃ b o,a=some ⟨b,o,none⟩∧xc μ b o cells):=by
 intro xs h;rcases h.el with rfl | ⟨b,o,rfl,g,p⟩
 ·exact ⟨[],rfl,fun h=>absurd rfl h⟩
 ·have key:∀ (l:List α) (k:Nat),xs.drop k=l→∃ cells,ma μ cells l∧xc μ b (o+k*Wa.sz α) cells:=by
   intro l
   induction l with
   | nil=>intro k _; exact ⟨[],rfl,fun w _ j v d=>by simp at d⟩
   | cons x l q =>
    intro k m;have r:xs[k]?=some x:=by
     have:=congrArg (fun l=>l[0]?) m;simpa using this
    obtain ⟨cells,f,i⟩:=q (k+1) (by rw [← List.tail_drop,m];rfl);obtain ⟨s,n⟩:=p k x r;refine ⟨g k++cells,ma.cons n f,fun w hw j v d=>?_⟩;rcases Nat.lt_or_ge j (g k).length with e | e
    ·rw [List.getElem?_append_left e] at d;exact s w hw j v d
    ·rw [List.getElem?_append_right e] at d;have:=i w hw _ v d;rw [Wa.sh n] at this e;rw [show o+(k+1)*Wa.sz α+(j - Wa.sz α)=o+k*Wa.sz α+j by rw [Nat.add_mul];omega] at this;exact this
  obtain ⟨cells,f,i⟩:=key xs 0 rfl;exact ⟨cells,f,fun _=>⟨b,o,rfl,by simpa using i⟩⟩
section
variable {P:Program}{Q:Exit→Act→World→Prop}{K:List Value→List Deferred→World→Prop}{fr za:List Value}{ds:List Deferred}{w:World}
variable {dst:Option Tmp}{ty:TypeId}{pos:String}{after:Array Edge}{g:Option (Nat×Bool)}
variable {w0:World}{rs rs':List Gb}{μ:M}
variable {T:TypeId}{d:TypeDesc}{Gf:Bool}{Kd:List Value}{n m:Nat}
theorem vd {c:Code}(f:List Nat) (i:f.Nodup) (d:List Ab→World→Prop) (j:∀ m w,d m w→opens m=f)
  (h:He P c (Exit.then (fun a' w'=>∃ m za,a'=F za ds∧Ke m fr za∧d m w') Q) fr ds w)
  (k:∀ m t w,d m w→Q .normal (F (ni t m fr) ds) w):He P c Q fr ds w:=⟨
 wp_mono h.out fun e a w' b=>by
  cases e with
  | normal =>
   obtain ⟨m,za,rfl,n,g⟩:=b;obtain ⟨t',o⟩:=n.ex (by rw [j m w' g];exact i);have:=k m t' w' g;rw [← o] at this;exact this
  | exit id=>exact b
  | goto l=>exact b
  | ret=>exact b
  | panic p=>exact b
  | outgrown=>exact b⟩
theorem Ae {c:Code}(f:List Nat) (k:f.Nodup) (b:Nat→List Ab→World→Prop) (h:∀ n m w,b n m w→opens m=f) (g:Nat) (m0:List Ab) (l:Ke m0 fr fr) (i:b g m0 w)
  (round:∀ n m t w,b n m w→He P c (Exit.then (fun a' w'=>∃ d e za,a'=F za ds∧Ke e fr za∧b d e w'∧d<n) Q) (ni t m fr) ds w):He P (.loop c) Q fr ds w:=by
 refine hI (α:={ p:Nat×List Ab // opens p.2=f }) f k (fun p=>p.1.2) (fun p=>p.2) (fun p w=>b p.1.1 p.1.2 w) (fun p _=>p.1.1) ⟨(g,m0),h g m0 w i⟩ l i fun p t w o=>?_;refine (round p.1.1 p.1.2 t w o).mono (tE fun a w' ⟨d,e,za,q,r,j,s⟩=>⟨⟨(d,e),h d e w' j⟩,za,q,r,j,s⟩)
theorem fh {c:Operand}{x y:Code}{b:Bool}(hc:rb fr c (.bool b)) (a:b=true→He P x Q fr ds w) (d:¬ b=true→He P y Q fr ds w):He P (.cond c x y) Q fr ds w :=
 wz hc a fun h=>d (by rw [h];simp)
theorem Cj {c:Operand}{x y:Code}{b:Bool}(hc:rb fr c (.bool (!b))) (a:¬ b=true→He P x Q fr ds w) (d:b=true→He P y Q fr ds w):He P (.cond c x y) Q fr ds w :=
 wz hc (fun h=>a (by simpa using h)) fun h=>d (by simpa using h)
theorem sC {ops:Array Oper}{l:List Oper}{Yg Zg:List Value}{d:Nat}{b:Bool}(a:Bc fr d (.bool b)) (c:wc fr d (.bool true) Yg) (e:wc fr d (.bool false) Zg)
  (f:b=true→Lf P ops Q l Yg ds w) (g:¬ b=true→Lf P ops Q l Zg ds w):Lf P ops Q l fr ds w:=xz a c e f fun h=>g (by rw [h];simp)
theorem mv {ops:Array Oper}{l:List Oper}{Yg Zg:List Value}{d:Nat}{b:Bool}(a:Bc fr d (.bool (!b))) (c:wc fr d (.bool true) Yg) (e:wc fr d (.bool false) Zg)
  (f:¬ b=true→Lf P ops Q l Yg ds w) (g:b=true→Lf P ops Q l Zg ds w):Lf P ops Q l fr ds w:=xz a c e (fun h=>f (by simpa using h)) fun h=>g (by simpa using h)
inductive Yc:List Gb→Nat→List Gb→Prop where
 | z {rs:List Gb}:Yc rs 0 rs
 | s {a r:Gb} {rs rs':List Gb} {k:Nat} (h:Yc rs k (r::rs')):Yc (a::rs) (k+1) (r::a::rs')
theorem Yc.perm {k:Nat}{rs rs':List Gb}(h:Yc rs k rs'):rs.Perm rs':=by
 induction h with
 | z=>exact .refl _
 | s _ a=>exact (a.cons _).trans (.swap _ _ _)
theorem _root_.Go.vc.Sep.ca {k:Nat}{S Sd:Nat→Prop}{A:World→Prop}(h:Sep S Sd w0 w rs A) (a:Yc rs k rs'):Sep S Sd w0 w rs' A where
 keeps:=h.keeps
 all r d:=h.all r (a.perm.mem_iff.2 d)
 oi:=(a.perm.filterMap _).nodup_iff.1 h.oi
 new b e:=h.new b ((a.perm.filterMap _).mem_iff.2 e)
 Hi:=h.Hi.mono fun k _ c=>⟨c.1,fun hm=>c.2 ((a.perm.filterMap Gb.block).mem_iff.2 hm)⟩
theorem _root_.Go.vc.Sep.Dv {r:Gb}{B:World→Prop}(h:la μ w0 w (r::rs)) (a:∀ w,r.holds w→B w):la (fun w=>μ w∧B w) w0 w rs :=
 Sep.freeze h (d0 (α:=Gb)) ia.z (fun _ _=>.inl trivial) a
theorem _root_.Go.vc.Sep.Yh {α:Type}[Wa α]{v:Value}{cells:List Value}{l:List α}(h:la μ w0 w (.row v T (Wa.sz α) n cells::rs)) (p:ma μ cells l) (e:l.length=n) :
  ∃ J a c,v=.slice a l.length c∧ga μ J∧wa J a c l∧la J w0 w rs:=by
 have q:Row w v T (Wa.sz α) n cells:=h.all _ (List.mem_cons_self ..);have f:=Sep.Dv (B:=fun w=>Row w v T (Wa.sz α) n cells) h fun w hw=>hw;have hle:ga μ (fun w=>μ w∧Row w v T (Wa.sz α) n cells):=fun w hw=>hw.1;rcases q.2 with ⟨rfl,rfl⟩ | ⟨g,o,cap,cur,rfl,C,r,s,D,E⟩
 ·obtain rfl:=List.eq_nil_of_length_eq_zero e;exact ⟨_,none,0,rfl,hle,wa.nil,f⟩
 ·subst e;refine ⟨_,some ⟨g,o,none⟩,cap,rfl,hle,⟨r,s,.inr ⟨g,o,rfl,fun i=>(cells.drop (i*Wa.sz α)).take (Wa.sz α),fun i x k=>⟨?_,?_⟩⟩⟩,f⟩
  ·intro F t j u d;obtain ⟨-,y⟩:=t;have z:0<l.length:=by have:=(List.getElem?_eq_some_iff.1 k).1;omega
   obtain ⟨b,G,c,m,hc⟩:=y.Oo z;simp at m;obtain ⟨⟨rfl,rfl⟩,rfl⟩:=m;have A:j<Wa.sz α:=by
    have:=(List.getElem?_eq_some_iff.1 d).1;simp at this;omega
   rw [List.getElem?_take_of_lt A,List.getElem?_drop] at d;have:=hc _ u d;rw [← Nat.add_assoc] at this;exact this
  ·exact Wa.up hle (p.get k)
theorem _root_.Go.vc.Sep.dh {α:Type}[Wa α]{b:Nat}{cells:List Value}{l:List α}(h:la μ w0 w (.ba b T cells::rs)) (c:ma μ cells l) (hlen:l.length≤maxLen) :
  ∃ J,ga μ J∧wa J (some ⟨b,0,none⟩) l.length l∧la J w0 w rs:=by
 have d:=Sep.Dv (B:=fun w=>ej w b T cells) h fun w hw=>hw;have hle:ga μ (fun w=>μ w∧ej w b T cells):=fun w hw=>hw.1;refine ⟨_,hle,⟨Nat.le_refl _,hlen,.inr ⟨b,0,rfl,fun i=>(cells.drop (i*Wa.sz α)).take (Wa.sz α),fun i x e=>⟨?_,Wa.up hle (c.get e)⟩⟩⟩,d⟩;intro k f j u a;have g:j<Wa.sz α:=by
  have:=(List.getElem?_eq_some_iff.1 a).1;simp at this;omega
 rw [List.getElem?_take_of_lt g,List.getElem?_drop] at a;have:=f.2.cells _ u a;rw [Nat.zero_add] at this ⊢;exact this
theorem _root_.Go.vc.Sep.Ul {b:Nat}{cells:List Value}(h:la μ w0 w (.ba b T cells::rs)):∃ J,ga μ J∧xc J b 0 cells∧la J w0 w rs :=
 ⟨_,fun _ hw=>hw.1,fun _ hw=>hw.2.cells,Sep.Dv (B:=fun w=>ej w b T cells) h fun _ hw=>hw⟩
theorem _root_.Go.vc.Sep.Gn {sz:Nat}{b k:Nat}{cells:List Value}{S Sd:Nat→Prop}{A:World→Prop}(h:Sep S Sd w0 w rs A) (c:Bc rs k (.ba b T cells)) (a:cells.length=n*sz) (hlen:n≤maxLen)
  (d:wc rs k (.row (.slice (some ⟨b,0,none⟩) n n) T sz n cells) rs'):Sep S Sd w0 w rs' A:=by
 have e:ej w b T cells:=h.get c;refine h.put (b:=b) c rfl rfl d ⟨a,.inr ⟨b,0,n,⟨cells⟩,rfl,e,Nat.le_refl _,hlen,by simp [a],by simp [← a]⟩⟩ (gi.refl _)
theorem Xb {x y:Operand}{v:Value}{b o sz:Nat}{k:IntKind}{i:Int}{e:TypeId}(a:P.underlying T=some (.slice e)) (d:Nc P e Gf Kd sz m) (f:rb fr x v) (h:rb fr y (.int k i)) (he:Qj v sz i b o):ef P (Oper.mk dst (.indexAddr T x y) ty pos after g) fr ((.pointer (some ⟨b,o,none⟩))):=by
 obtain ⟨q,n,c,rfl,j,l,p⟩:=he.out;exact Rr a d f h ⟨j,l⟩ p
theorem ud {x y:Operand}{t t':TypeId}{a b c:Int}(d:rb fr x (.int .i64 a)) (e:rb fr y (.int .i64 b)) (h:i64 (a+b)=some c):ef P (Oper.mk dst (.binOp .add t x y t') ty pos after g) fr ((.int .i64 c)):=jv d e (ox h)
theorem WG {x y:Operand}{t t':TypeId}{a b c:Int}(d:rb fr x (.int .i64 a)) (e:rb fr y (.int .i64 b)) (h:i64 (a+b)=some c) (f:tf fr dst ((.int .i64 c)) za) (k:K za ds w):Pd P (Oper.mk dst (.binOp .add t x y t') ty pos after g) fr ds w K Q:=xa (ud d e h) f k
theorem Pg {x y:Operand}{t t':TypeId}{a b c:Int}(d:rb fr x (.int .i64 a)) (e:rb fr y (.int .i64 b)) (h:i64 (a - b)=some c):ef P (Oper.mk dst (.binOp .sub t x y t') ty pos after g) fr ((.int .i64 c)):=cC d e (ox h)
theorem XG {x y:Operand}{t t':TypeId}{a b c:Int}(d:rb fr x (.int .i64 a)) (e:rb fr y (.int .i64 b)) (h:i64 (a - b)=some c) (f:tf fr dst ((.int .i64 c)) za) (k:K za ds w):Pd P (Oper.mk dst (.binOp .sub t x y t') ty pos after g) fr ds w K Q:=xa (Pg d e h) f k
theorem YG {x y:Operand}{t t':TypeId}{a b c:Int}(d:rb fr x (.int .i64 a)) (e:rb fr y (.int .i64 b)) (h:i64 (a*b)=some c):ef P (Oper.mk dst (.binOp .mul t x y t') ty pos after g) fr ((.int .i64 c)):=uy d e (ox h)
theorem hq {a b c:Int}(h:quo a b=some c):b≠0∧IntKind.i64.wrap (a.tdiv b)=c:=by
 unfold quo at h;split at h
 ·cases h
 ·rename_i d;exact ⟨d,Option.some.inj h⟩
theorem ZG {x y:Operand}{t:TypeId}{k:IntKind}{a:List UInt8}{i:Int}{c:UInt8}(b:P.underlying t=some .string) (d:rb fr x (S a)) (e:rb fr y (.int k i)) (h:at_ a i=some c):ef P (Oper.mk dst (.index t x y) ty pos after g) fr (.int .u8 c.toNat):=QG b d e (Hr h).1 (Hr h).2.2
theorem Zu {x y:Operand}{t:TypeId}{k:IntKind}{a:List UInt8}{i:Int}{c:UInt8}(b:P.underlying t=some .string) (d:rb fr x (S a)) (e:rb fr y (.int k i)) (h:at_ a i=some c) (f:tf fr dst (.int .u8 c.toNat) za) (kk:K za ds w):Pd P (Oper.mk dst (.index t x y) ty pos after g) fr ds w K Q:=xa (ZG b d e h) f kk
theorem JB {x y:Operand}{t t':TypeId}{a b c:List UInt8}(d:rb fr x (S a)) (e:rb fr y (S b)) (h:cat a b=some c):ef P (Oper.mk dst (.binOp .add t x y t') ty pos after g) fr (S c):=by
 obtain ⟨rfl,f⟩:=VG h;exact nI d e f
structure eo (v:Value) (sz:Nat) (i j:Option Int) (b:Value):Prop where
 out:∃ a n c,v=.slice a n c∧0≤i.getD 0∧i.getD 0≤j.getD n∧j.getD n≤c∧b=.slice (if c=(i.getD 0).toNat then a else a.map (·.add ((i.getD 0).toNat*sz))) ((j.getD n).toNat - (i.getD 0).toNat) (c - (i.getD 0).toNat)
inductive Lv (fr:List Value):Option Operand→Option Int→Prop where
 | n:Lv fr none none
 | s {x:Operand} {i:Int} (h:rb fr x (.int .i64 i)):Lv fr (some x) (some i)
theorem Oj {x:Operand}{yj up:Option Operand}{v p:Value}{sz:Nat}{i j:Option Int}{e:TypeId}(f:P.underlying T=some (.slice e)) (k:Nc P e Gf Kd sz m) (l:rb fr x v) (gb:Lv fr yj i) (q:Lv fr up j) (he:eo v sz i j p):ef P (Oper.mk dst (.slice T x yj up none) ty pos after g) fr p:=by
 obtain ⟨a,n,c,rfl,o,b,d,rfl⟩:=he.out;refine ⟨fun ds w=>?_⟩;cases gb with
 | n =>
  cases q with
  | n =>
   simp at b d;simp [execOp,l ds,Instr.sliceAt,Instr.slice,run_underlying f,Instr.sliceBounds,k.sizeOf];try rfl
  | s h =>
   rename_i y i;simp at b d;have ra:i≤(c:Int):=d;simp [execOp,l ds,h ds,Instr.sliceAt,Instr.slice,run_underlying f,Instr.sliceBounds,Instr.sliceBound,asIntOf,k.sizeOf,b,ra];try rfl
 | s h =>
  rename_i y i;cases q with
  | n =>
   simp at o b d;simp [execOp,l ds,h ds,Instr.sliceAt,Instr.slice,run_underlying f,Instr.sliceBounds,Instr.sliceBound,asIntOf,k.sizeOf,o,b];try rfl
  | s r =>
   rename_i u i';simp at o b d;have ra:0≤i':=by omega
   have t:(i'.toNat:Int)=i':=by omega
   simp [execOp,l ds,h ds,r ds,Instr.sliceAt,Instr.slice,run_underlying f,Instr.sliceBounds,Instr.sliceBound,asIntOf,k.sizeOf,o,b,d,ra,t];try rfl
theorem wa.fo {α:Type}[Wa α]{μ:M}{a:Option Addr}{c:Nat}{xs ys:List α}{i j:Option Int}(h:wa μ a c xs) (g:cut xs (i.getD 0) (j.getD xs.length)=some ys) :
  ∃ a' c',eo (.slice a xs.length c) (Wa.sz α) i j (.slice a' ys.length c')∧wa μ a' c' ys:=by
 obtain ⟨⟨e,l,p⟩,rfl⟩:=gq g;have hle:=h.le;refine ⟨(if c=(i.getD 0).toNat then a else a.map (·.add ((i.getD 0).toNat*Wa.sz α))),c - (i.getD 0).toNat,⟨a,xs.length,c,rfl,e,l,by omega,?_⟩,?_⟩
 ·rw [show ((xs.take (j.getD ↑xs.length).toNat).drop (i.getD 0).toNat).length=(j.getD ↑xs.length).toNat - (i.getD 0).toNat by simp;omega]
 ·refine ⟨by simp;omega,by have:=h.cap;omega,?_⟩;rcases h.el with rfl | ⟨b,o,rfl,f,m⟩
  ·left;simp
  ·by_cases hc:c=(i.getD 0).toNat
   ·left;rw [List.drop_eq_nil_iff];simp;omega
   ·right;rw [if_neg hc];refine ⟨b,o+(i.getD 0).toNat*Wa.sz α,by simp [ek],fun k=>f ((i.getD 0).toNat+k),fun k x d=>?_⟩;rw [List.getElem?_drop] at d;have n:(i.getD 0).toNat+k<(j.getD ↑xs.length).toNat:=by
     have:=(List.getElem?_eq_some_iff.1 d).1;simp at this;omega
    rw [List.getElem?_take_of_lt n] at d;have:=m _ x d;rw [Nat.add_mul,← Nat.add_assoc] at this;exact this
end
end Go.jd
namespace Go.jd
open Go.vc Go.RowKit
section
variable {P:Program}{Q:Exit→Act→World→Prop}{K:List Value→List Deferred→World→Prop}{fr za:List Value}{ds:List Deferred}{w:World}
variable {dst:Option Tmp}{ty:TypeId}{pos:String}{after:Array Edge}{g:Option (Nat×Bool)}
variable {w0:World}{rs rs':List Gb}{μ:M}
variable {T:TypeId}{d:TypeDesc}{Gf:Bool}{Kd:List Value}{n m:Nat}
theorem px {x yj:Operand}{t:TypeId}{a b:List UInt8}{i:Int}(c:P.underlying t=some .string) (d:rb fr x (S a)) (gb:rb fr yj (.int .i64 i)) (h:cut a i a.length=some b):ef P (Oper.mk dst (.slice t x (some yj) none none) ty pos after g) fr (S b):=by
 obtain ⟨⟨e,f,j⟩,rfl⟩:=gq h;have:=MF (dst:=dst) (ty:=ty) (pos:=pos) (after:=after) (g:=g) c d gb ⟨e,f⟩;simpa using this
theorem qx {x up:Operand}{t:TypeId}{a b:List UInt8}{j:Int}(c:P.underlying t=some .string) (d:rb fr x (S a)) (e:rb fr up (.int .i64 j)) (h:cut a 0 j=some b):ef P (Oper.mk dst (.slice t x none (some up) none) ty pos after g) fr (S b):=by
 obtain ⟨⟨k,f,i⟩,rfl⟩:=gq h;have:=NF (dst:=dst) (ty:=ty) (pos:=pos) (after:=after) (g:=g) c d e ⟨f,i⟩;simpa using this
theorem _root_.Go.vc.Row.Od {v:Value}{sz n:Nat}{xs:List Value}(h:Row w v T sz n xs):Od v=true:=by
 rcases h.2 with ⟨rfl,_⟩ | ⟨g,o,cap,cur,rfl,_⟩<;>rfl
theorem Fm {f:Nat}{xs ys:List Operand}{vs us:List Value}(a:Ek fr xs vs) (hu:Ek fr ys us):ef P (Oper.mk dst (.makeFunc (.func f) ⟨xs⟩ ⟨ys⟩) ty pos after g) fr (.func (.func f) ⟨vs⟩ ⟨us⟩):=by
 refine ⟨fun ds w=>?_⟩;have b:=a ds;have c:=hu ds;simp [execOp,Instr.makeFunc,b,c]
theorem ma.app {α:Type}[Wa α]{cells news:List Value}{l xs a:List α}(h:ma μ cells l) (k:ma μ news xs) (g:app l xs=some a):ma μ (cells++news) a:=by
 obtain ⟨rfl,-⟩:=Yu g;exact ma.cat k h
theorem Hu {α:Type}{l xs a:List α}(g:app l xs=some a):a.length=l.length+xs.length∧l.length+xs.length≤4294967296:=by
 obtain ⟨rfl,h⟩:=Yu g;exact ⟨by simp,h⟩
theorem Sh {α:Type}[Wa α]{t:TypeId}{s x:Operand}{v:Value}{bytes k b d c:Nat}{cells news:List Value}{l ys e:List α}(i:P.underlying t=some (.slice T)) (j:Nc P T Gf Kd (Wa.sz α) bytes) (m:Kd.length=Wa.sz α)
  (n:rb fr s v) (o:rb fr x (.slice (some ⟨b,0,none⟩) d c)) (p:la μ w0 w rs) (q:Bc rs k (.row v T (Wa.sz α) l.length cells)) (r:bj w b 0 news) (f:ma μ news ys) (hm:ys.length=d) (u:app l ys=some e) (y:bytes≤4096)
  (h:∀ a w' rs',wc rs k (.row a T (Wa.sz α) e.length (cells++news)) rs'→la μ w0 w' rs'→Rg fr dst a fun za=>K za ds w') :
  Pd P (Oper.mk dst (.call { callee:=.builtin .append,args:=#[s,x],argTypes:=#[t,t] }) ty pos after g) fr ds w K Q:=by
 obtain ⟨z,A⟩:=Hu u;subst hm;refine gr i j (by simp [m,Wa.pos]) n o p q r f.len f.Ug ⟨A,y⟩ fun a w' rs' B=>h a w' rs' (by rw [z];exact B)
theorem _root_.Go.vc.bj.Le {b o:Nat}{cs:List Value}(h:bj w b o cs) (i n:Nat):bj w b (o+i) ((cs.drop i).take n):=by
 intro j v a;have c:j<n:=by
  have:=(List.getElem?_eq_some_iff.1 a).1;simp at this;omega
 rw [List.getElem?_take_of_lt c,List.getElem?_drop] at a;have:=h _ v a;rw [← Nat.add_assoc] at this;exact this
theorem xc.Le {b o:Nat}{cs:List Value}(h:xc μ b o cs) (i n:Nat):xc μ b (o+i) ((cs.drop i).take n):=fun w hw=>(h w hw).Le i n
theorem Tb {x y:Operand}{b k:Nat}{cs vs:List Value}(d:Nc P T Gf Kd n m) (e:rb fr x (.pointer (some ⟨b,0,none⟩))) (f:rb fr y (.agg ⟨vs⟩)) (i:vs.length=n) (j:vs.all Od=true)
  {S Sd:Nat→Prop}{A:World→Prop}(l:Sep S Sd w0 w rs A) {a:TypeId}(o:Bc rs k (.ba b a cs)) (he:cs.length=n) (p:wc rs k (.ba b a vs) rs')
  (tb:tf fr dst undef za) (h:∀ w',Sep S Sd w0 w' rs' A→K za ds w'):Pd P (Oper.mk dst (.store T x y) ty pos after g) fr ds w K Q:=by
 have key:∀ (vs cs pre:List Value),vs.length=cs.length→kf (pre++cs) pre.length vs (pre++vs):=by
  intro vs
  induction vs with
  | nil=>intro cs pre h; cases cs with
   | nil=>exact .z
   | cons c cs=>simp at h
  | cons v vs q =>
   intro cs pre h;cases cs with
   | nil=>simp at h
   | cons c cs =>
    refine .s (cs1:=pre++v::cs) (by unfold wc;simp) (by simp) ?_;have:=q cs (pre++[v]) (by simpa using h);simpa using this
 exact Ho d e f rfl i j l o (by simpa using key vs cs [] (by omega)) (by simp) p tb h
theorem Bm {pl:Array (Nat×Nat)}{xs:List (Nat×Operand)}{out:List Value}(a:Nc P T Gf Kd n m) (b:hh P T pl) (c:Oa fr pl Kd xs out):ef P (Oper.mk dst (.build T ⟨xs⟩) ty pos after g) fr (.agg ⟨out⟩):=by
 refine ⟨fun ds w=>?_⟩;obtain ⟨z,d,hc⟩:=a.zero (w:=w);have e:=c.run (ds:=ds);obtain ⟨k,f,h⟩:=b.out;have hm:=h w;have j:((⟨xs⟩:Array (Nat×Operand)).map fun (i,x)=>(i,(F fr ds).eval x)).toList=xs.map fun p=>(p.1,(F fr ds).eval p.2):=by simp
 unfold execOp;simp only [Instr.build,Sem.run_bind,d,Result.andThen_ok,run_underlying f];rw [hm];simp only [Result.andThen_ok,hc,j];rw [e];simp
end
end Go.jd
namespace Go.vc
theorem na {α:Type}{a0 pa a2 a3 a4 a5 dc Gc mb a9 v:α}{l:List α}{n:Nat}(h:Bc l n v):Bc (a0::pa::a2::a3::a4::a5::dc::Gc::mb::a9::l) (n+10) v:=h
theorem Ta {α:Type}{a0 pa a2 a3 a4 a5 dc Gc mb a9 v:α}{l a:List α}{n:Nat}(h:wc l n v a):wc (a0::pa::a2::a3::a4::a5::dc::Gc::mb::a9::l) (n+10) v (a0::pa::a2::a3::a4::a5::dc::Gc::mb::a9::a):=by unfold wc at *;subst h;rfl
theorem sa {α:Type}{a0 pa a2 a3 a4 a5 dc Gc mb a9 de jc a12 a sc re b od c Vd v:α}{l:List α}{n:Nat}(h:Bc l n v):Bc (a0::pa::a2::a3::a4::a5::dc::Gc::mb::a9::de::jc::a12::a::sc::re::b::od::c::Vd::l) (n+20) v:=h
theorem eb {α:Type}{a0 pa a2 a3 a4 a5 dc Gc mb a9 de jc a12 a sc re b od c Vd v:α}{l d:List α}{n:Nat}(h:wc l n v d):wc (a0::pa::a2::a3::a4::a5::dc::Gc::mb::a9::de::jc::a12::a::sc::re::b::od::c::Vd::l) (n+20) v (a0::pa::a2::a3::a4::a5::dc::Gc::mb::a9::de::jc::a12::a::sc::re::b::od::c::Vd::d):=by unfold wc at *;subst h;rfl
theorem qa {α:Type}{a0 pa a2 a3 a4 a5 dc Gc mb a9 de jc a12 a sc re b od c Vd a20 a21 a22 a23 a24 a25 a26 oe a28 d v:α}{l:List α}{n:Nat}(h:Bc l n v):Bc (a0::pa::a2::a3::a4::a5::dc::Gc::mb::a9::de::jc::a12::a::sc::re::b::od::c::Vd::a20::a21::a22::a23::a24::a25::a26::oe::a28::d::l) (n+30) v:=h
theorem nb {α:Type}{a0 pa a2 a3 a4 a5 dc Gc mb a9 de jc a12 a sc re b od c Vd a20 a21 a22 a23 a24 a25 a26 oe a28 d v:α}{l e:List α}{n:Nat}(h:wc l n v e):wc (a0::pa::a2::a3::a4::a5::dc::Gc::mb::a9::de::jc::a12::a::sc::re::b::od::c::Vd::a20::a21::a22::a23::a24::a25::a26::oe::a28::d::l) (n+30) v (a0::pa::a2::a3::a4::a5::dc::Gc::mb::a9::de::jc::a12::a::sc::re::b::od::c::Vd::a20::a21::a22::a23::a24::a25::a26::oe::a28::d::e):=by unfold wc at *;subst h;rfl
theorem Ca {α:Type}{a0 pa a2 a3 a4 a5 dc Gc mb a9 de jc a12 a sc re b od c Vd a20 a21 a22 a23 a24 a25 a26 oe a28 d Je a31 e f g i Ue a37 j k v:α}{l:List α}{n:Nat}(h:Bc l n v):Bc (a0::pa::a2::a3::a4::a5::dc::Gc::mb::a9::de::jc::a12::a::sc::re::b::od::c::Vd::a20::a21::a22::a23::a24::a25::a26::oe::a28::d::Je::a31::e::f::g::i::Ue::a37::j::k::l) (n+40) v:=h
theorem Hb {α:Type}{a0 pa a2 a3 a4 a5 dc Gc mb a9 de jc a12 a sc re b od c Vd a20 a21 a22 a23 a24 a25 a26 oe a28 d Je a31 e f g i Ue a37 j k v:α}{l m:List α}{n:Nat}(h:wc l n v m):wc (a0::pa::a2::a3::a4::a5::dc::Gc::mb::a9::de::jc::a12::a::sc::re::b::od::c::Vd::a20::a21::a22::a23::a24::a25::a26::oe::a28::d::Je::a31::e::f::g::i::Ue::a37::j::k::l) (n+40) v (a0::pa::a2::a3::a4::a5::dc::Gc::mb::a9::de::jc::a12::a::sc::re::b::od::c::Vd::a20::a21::a22::a23::a24::a25::a26::oe::a28::d::Je::a31::e::f::g::i::Ue::a37::j::k::m):=by unfold wc at *;subst h;rfl
theorem Ma {α:Type}{a0 pa a2 a3 a4 a5 dc Gc mb a9 de jc a12 a sc re b od c Vd a20 a21 a22 a23 a24 a25 a26 oe a28 d Je a31 e f g i Ue a37 j k a40 m o p q r a46 s t a49 v:α}{l:List α}{n:Nat}(h:Bc l n v):Bc (a0::pa::a2::a3::a4::a5::dc::Gc::mb::a9::de::jc::a12::a::sc::re::b::od::c::Vd::a20::a21::a22::a23::a24::a25::a26::oe::a28::d::Je::a31::e::f::g::i::Ue::a37::j::k::a40::m::o::p::q::r::a46::s::t::a49::l) (n+50) v:=h
theorem nc {α:Type}{a0 pa a2 a3 a4 a5 dc Gc mb a9 de jc a12 a sc re b od c Vd a20 a21 a22 a23 a24 a25 a26 oe a28 d Je a31 e f g i Ue a37 j k a40 m o p q r a46 s t a49 v:α}{l u:List α}{n:Nat}(h:wc l n v u):wc (a0::pa::a2::a3::a4::a5::dc::Gc::mb::a9::de::jc::a12::a::sc::re::b::od::c::Vd::a20::a21::a22::a23::a24::a25::a26::oe::a28::d::Je::a31::e::f::g::i::Ue::a37::j::k::a40::m::o::p::q::r::a46::s::t::a49::l) (n+50) v (a0::pa::a2::a3::a4::a5::dc::Gc::mb::a9::de::jc::a12::a::sc::re::b::od::c::Vd::a20::a21::a22::a23::a24::a25::a26::oe::a28::d::Je::a31::e::f::g::i::Ue::a37::j::k::a40::m::o::p::q::r::a46::s::t::a49::u):=by unfold wc at *;subst h;rfl
theorem Dc {α:Type}{a0 pa a2 a3 a4 a5 dc Gc mb a9 de jc a12 a sc re b od c Vd a20 a21 a22 a23 a24 a25 a26 oe a28 d Je a31 e f g i Ue a37 j k a40 m o p q r a46 s t a49 u a51 w a53 x y z A B a59 v:α}{l:List α}{n:Nat}(h:Bc l n v):Bc (a0::pa::a2::a3::a4::a5::dc::Gc::mb::a9::de::jc::a12::a::sc::re::b::od::c::Vd::a20::a21::a22::a23::a24::a25::a26::oe::a28::d::Je::a31::e::f::g::i::Ue::a37::j::k::a40::m::o::p::q::r::a46::s::t::a49::u::a51::w::a53::x::y::z::A::B::a59::l) (n+60) v:=h
theorem ue {α:Type}{a0 pa a2 a3 a4 a5 dc Gc mb a9 de jc a12 a sc re b od c Vd a20 a21 a22 a23 a24 a25 a26 oe a28 d Je a31 e f g i Ue a37 j k a40 m o p q r a46 s t a49 u a51 w a53 x y z A B a59 v:α}{l C:List α}{n:Nat}(h:wc l n v C):wc (a0::pa::a2::a3::a4::a5::dc::Gc::mb::a9::de::jc::a12::a::sc::re::b::od::c::Vd::a20::a21::a22::a23::a24::a25::a26::oe::a28::d::Je::a31::e::f::g::i::Ue::a37::j::k::a40::m::o::p::q::r::a46::s::t::a49::u::a51::w::a53::x::y::z::A::B::a59::l) (n+60) v (a0::pa::a2::a3::a4::a5::dc::Gc::mb::a9::de::jc::a12::a::sc::re::b::od::c::Vd::a20::a21::a22::a23::a24::a25::a26::oe::a28::d::Je::a31::e::f::g::i::Ue::a37::j::k::a40::m::o::p::q::r::a46::s::t::a49::u::a51::w::a53::x::y::z::A::B::a59::C):=by unfold wc at *;subst h;rfl
theorem Ic {α:Type}{a0 pa a2 a3 a4 a5 dc Gc mb a9 de jc a12 a sc re b od c Vd a20 a21 a22 a23 a24 a25 a26 oe a28 d Je a31 e f g i Ue a37 j k a40 m o p q r a46 s t a49 u a51 w a53 x y z A B a59 C D E F G H K M N O v:α}{l:List α}{n:Nat}(h:Bc l n v):Bc (a0::pa::a2::a3::a4::a5::dc::Gc::mb::a9::de::jc::a12::a::sc::re::b::od::c::Vd::a20::a21::a22::a23::a24::a25::a26::oe::a28::d::Je::a31::e::f::g::i::Ue::a37::j::k::a40::m::o::p::q::r::a46::s::t::a49::u::a51::w::a53::x::y::z::A::B::a59::C::D::E::F::G::H::K::M::N::O::l) (n+70) v:=h
theorem Rf {α:Type}{a0 pa a2 a3 a4 a5 dc Gc mb a9 de jc a12 a sc re b od c Vd a20 a21 a22 a23 a24 a25 a26 oe a28 d Je a31 e f g i Ue a37 j k a40 m o p q r a46 s t a49 u a51 w a53 x y z A B a59 C D E F G H K M N O v:α}{l P:List α}{n:Nat}(h:wc l n v P):wc (a0::pa::a2::a3::a4::a5::dc::Gc::mb::a9::de::jc::a12::a::sc::re::b::od::c::Vd::a20::a21::a22::a23::a24::a25::a26::oe::a28::d::Je::a31::e::f::g::i::Ue::a37::j::k::a40::m::o::p::q::r::a46::s::t::a49::u::a51::w::a53::x::y::z::A::B::a59::C::D::E::F::G::H::K::M::N::O::l) (n+70) v (a0::pa::a2::a3::a4::a5::dc::Gc::mb::a9::de::jc::a12::a::sc::re::b::od::c::Vd::a20::a21::a22::a23::a24::a25::a26::oe::a28::d::Je::a31::e::f::g::i::Ue::a37::j::k::a40::m::o::p::q::r::a46::s::t::a49::u::a51::w::a53::x::y::z::A::B::a59::C::D::E::F::G::H::K::M::N::O::P):=by unfold wc at *;subst h;rfl
theorem Wb {α:Type}{a0 pa a2 a3 a4 a5 dc Gc mb a9 de jc a12 a sc re b od c Vd a20 a21 a22 a23 a24 a25 a26 oe a28 d Je a31 e f g i Ue a37 j k a40 m o p q r a46 s t a49 u a51 w a53 x y z A B a59 C D E F G H K M N O a70 P a72 Q R a75 a76 S T U v:α}{l:List α}{n:Nat}(h:Bc l n v):Bc (a0::pa::a2::a3::a4::a5::dc::Gc::mb::a9::de::jc::a12::a::sc::re::b::od::c::Vd::a20::a21::a22::a23::a24::a25::a26::oe::a28::d::Je::a31::e::f::g::i::Ue::a37::j::k::a40::m::o::p::q::r::a46::s::t::a49::u::a51::w::a53::x::y::z::A::B::a59::C::D::E::F::G::H::K::M::N::O::a70::P::a72::Q::R::a75::a76::S::T::U::l) (n+80) v:=h
theorem Ve {α:Type}{a0 pa a2 a3 a4 a5 dc Gc mb a9 de jc a12 a sc re b od c Vd a20 a21 a22 a23 a24 a25 a26 oe a28 d Je a31 e f g i Ue a37 j k a40 m o p q r a46 s t a49 u a51 w a53 x y z A B a59 C D E F G H K M N O a70 P a72 Q R a75 a76 S T U v:α}{l W:List α}{n:Nat}(h:wc l n v W):wc (a0::pa::a2::a3::a4::a5::dc::Gc::mb::a9::de::jc::a12::a::sc::re::b::od::c::Vd::a20::a21::a22::a23::a24::a25::a26::oe::a28::d::Je::a31::e::f::g::i::Ue::a37::j::k::a40::m::o::p::q::r::a46::s::t::a49::u::a51::w::a53::x::y::z::A::B::a59::C::D::E::F::G::H::K::M::N::O::a70::P::a72::Q::R::a75::a76::S::T::U::l) (n+80) v (a0::pa::a2::a3::a4::a5::dc::Gc::mb::a9::de::jc::a12::a::sc::re::b::od::c::Vd::a20::a21::a22::a23::a24::a25::a26::oe::a28::d::Je::a31::e::f::g::i::Ue::a37::j::k::a40::m::o::p::q::r::a46::s::t::a49::u::a51::w::a53::x::y::z::A::B::a59::C::D::E::F::G::H::K::M::N::O::a70::P::a72::Q::R::a75::a76::S::T::U::W):=by unfold wc at *;subst h;rfl
theorem dd {α:Type}{a0 pa a2 a3 a4 a5 dc Gc mb a9 de jc a12 a sc re b od c Vd a20 a21 a22 a23 a24 a25 a26 oe a28 d Je a31 e f g i Ue a37 j k a40 m o p q r a46 s t a49 u a51 w a53 x y z A B a59 C D E F G H K M N O a70 P a72 Q R a75 a76 S T U a80 W X Y Z a85 gc a87 hc lc v:α}{l:List α}{n:Nat}(h:Bc l n v):Bc (a0::pa::a2::a3::a4::a5::dc::Gc::mb::a9::de::jc::a12::a::sc::re::b::od::c::Vd::a20::a21::a22::a23::a24::a25::a26::oe::a28::d::Je::a31::e::f::g::i::Ue::a37::j::k::a40::m::o::p::q::r::a46::s::t::a49::u::a51::w::a53::x::y::z::A::B::a59::C::D::E::F::G::H::K::M::N::O::a70::P::a72::Q::R::a75::a76::S::T::U::a80::W::X::Y::Z::a85::gc::a87::hc::lc::l) (n+90) v:=h
theorem bg {α:Type}{a0 pa a2 a3 a4 a5 dc Gc mb a9 de jc a12 a sc re b od c Vd a20 a21 a22 a23 a24 a25 a26 oe a28 d Je a31 e f g i Ue a37 j k a40 m o p q r a46 s t a49 u a51 w a53 x y z A B a59 C D E F G H K M N O a70 P a72 Q R a75 a76 S T U a80 W X Y Z a85 gc a87 hc lc v:α}{l rc:List α}{n:Nat}(h:wc l n v rc):wc (a0::pa::a2::a3::a4::a5::dc::Gc::mb::a9::de::jc::a12::a::sc::re::b::od::c::Vd::a20::a21::a22::a23::a24::a25::a26::oe::a28::d::Je::a31::e::f::g::i::Ue::a37::j::k::a40::m::o::p::q::r::a46::s::t::a49::u::a51::w::a53::x::y::z::A::B::a59::C::D::E::F::G::H::K::M::N::O::a70::P::a72::Q::R::a75::a76::S::T::U::a80::W::X::Y::Z::a85::gc::a87::hc::lc::l) (n+90) v (a0::pa::a2::a3::a4::a5::dc::Gc::mb::a9::de::jc::a12::a::sc::re::b::od::c::Vd::a20::a21::a22::a23::a24::a25::a26::oe::a28::d::Je::a31::e::f::g::i::Ue::a37::j::k::a40::m::o::p::q::r::a46::s::t::a49::u::a51::w::a53::x::y::z::A::B::a59::C::D::E::F::G::H::K::M::N::O::a70::P::a72::Q::R::a75::a76::S::T::U::a80::W::X::Y::Z::a85::gc::a87::hc::lc::rc):=by unfold wc at *;subst h;rfl
theorem ja {α:Type}{a0 pa a2 a3 a4 a5 dc Gc mb a9 de jc a12 a sc re b od c Vd a20 a21 a22 a23 a24 a25 a26 oe a28 d Je a31 e f g i Ue a37 j k a40 m o p q r a46 s t a49 u a51 w a53 x y z A B a59 C D E F G H K M N O a70 P a72 Q R a75 a76 S T U a80 W X Y Z a85 gc a87 hc lc rc a91 fd a93 id md rd wd Fd Id v:α}{l:List α}{n:Nat}(h:Bc l n v):Bc (a0::pa::a2::a3::a4::a5::dc::Gc::mb::a9::de::jc::a12::a::sc::re::b::od::c::Vd::a20::a21::a22::a23::a24::a25::a26::oe::a28::d::Je::a31::e::f::g::i::Ue::a37::j::k::a40::m::o::p::q::r::a46::s::t::a49::u::a51::w::a53::x::y::z::A::B::a59::C::D::E::F::G::H::K::M::N::O::a70::P::a72::Q::R::a75::a76::S::T::U::a80::W::X::Y::Z::a85::gc::a87::hc::lc::rc::a91::fd::a93::id::md::rd::wd::Fd::Id::l) (n+100) v:=h
theorem Ia {α:Type}{a0 pa a2 a3 a4 a5 dc Gc mb a9 de jc a12 a sc re b od c Vd a20 a21 a22 a23 a24 a25 a26 oe a28 d Je a31 e f g i Ue a37 j k a40 m o p q r a46 s t a49 u a51 w a53 x y z A B a59 C D E F G H K M N O a70 P a72 Q R a75 a76 S T U a80 W X Y Z a85 gc a87 hc lc rc a91 fd a93 id md rd wd Fd Id v:α}{l be:List α}{n:Nat}(h:wc l n v be):wc (a0::pa::a2::a3::a4::a5::dc::Gc::mb::a9::de::jc::a12::a::sc::re::b::od::c::Vd::a20::a21::a22::a23::a24::a25::a26::oe::a28::d::Je::a31::e::f::g::i::Ue::a37::j::k::a40::m::o::p::q::r::a46::s::t::a49::u::a51::w::a53::x::y::z::A::B::a59::C::D::E::F::G::H::K::M::N::O::a70::P::a72::Q::R::a75::a76::S::T::U::a80::W::X::Y::Z::a85::gc::a87::hc::lc::rc::a91::fd::a93::id::md::rd::wd::Fd::Id::l) (n+100) v (a0::pa::a2::a3::a4::a5::dc::Gc::mb::a9::de::jc::a12::a::sc::re::b::od::c::Vd::a20::a21::a22::a23::a24::a25::a26::oe::a28::d::Je::a31::e::f::g::i::Ue::a37::j::k::a40::m::o::p::q::r::a46::s::t::a49::u::a51::w::a53::x::y::z::A::B::a59::C::D::E::F::G::H::K::M::N::O::a70::P::a72::Q::R::a75::a76::S::T::U::a80::W::X::Y::Z::a85::gc::a87::hc::lc::rc::a91::fd::a93::id::md::rd::wd::Fd::Id::be):=by unfold wc at *;subst h;rfl
end Go.vc
namespace Go.vc
open Go.RowKit
section
variable {P:Program}{Q:Exit→Act→World→Prop}{K:List Value→List Deferred→World→Prop}{fr za:List Value}{ds:List Deferred}{w:World}
variable {dst:Option Tmp}{ty:TypeId}{pos:String}{after:Array Edge}{g:Option (Nat×Bool)}
variable {S Sd:Nat→Prop}{w0:World}{rs rs':List Gb}{A:World→Prop}
variable {T:TypeId}
inductive Fj:TypeDesc→Value→Prop where
 | str (l:List UInt8):Fj .string (vc.S l)
 | int (k:IntKind) (n:Int):Fj (.int k) (.int k n)
def sj:Value→Value→Bool
 | .string a,.string b=>decide (a.data.toList=b.data.toList)
 | .int _ a,.int _ b=>decide (a=b)
 | _,_=>false
def yk (es:List MapEntry) (k:Value):Option (Nat×Value):=(es.zipIdx.find? fun e=>sj k e.1.key).map fun e=>(e.2,e.1.val)
theorem ID {d:TypeDesc}{k:Value}(a:Fj d k):∀ (es:List MapEntry) (i:Nat),(∀ e ∈ es,Fj d e.key)→Instr.findNow d k es i=some (((es.zipIdx i).find? fun e=>sj k e.1.key).map fun e=>(e.2,e.1.val)):=by
 intro es
 induction es with
 | nil=>intro i _; simp [Instr.findNow]
 | cons e es b =>
  intro i h;have he:=h e (by simp);have c:=b (i+1) fun x f=>h x (by simp [f]);simp only [Instr.findNow,List.zipIdx_cons,List.find?_cons];have g:Instr.sameNow d k e.key=some (sj k e.key):=by
   generalize e.key=j at he;cases a with
   | str l =>
    cases he with
    | str m =>
     simp only [Instr.sameNow,vc.S,sj];congr 1;rw [Bool.eq_iff_iff,nx];simp
   | int kk n =>
    cases he with
    | int _ o =>
     simp only [Instr.sameNow,if_true,sj];congr 1
  rw [g];cases p:sj k e.key with
  | true=>simp
  | false=>exact c
theorem run_findKey {ff:TypeId}{d:TypeDesc}{k:Value}{es:List MapEntry}(a:P.underlying ff=some d) (b:Fj d k) (he:∀ e ∈ es,Fj d e.key):(Instr.findKey ff k es).run P w=.ok (yk es k) w:=by
 unfold Instr.findKey yk;simp only [Sem.run_bind,run_underlying a,Result.andThen_ok,ID b es 0 he];rfl
theorem run_checkKey {ff:TypeId}{d:TypeDesc}{k:Value}{b:Bool}(a:P.underlying ff=some d) (c:Fj d k):(Instr.checkKey b 10000 ff k).run P w=.ok () w:=by
 show (Instr.checkKey b (9999+1) ff k).run P w=_;unfold Instr.checkKey;simp only [Sem.run_bind,run_underlying a,Result.andThen_ok];cases c<;>rfl
theorem Aj (a:Sep S Sd w0 w rs A) (h:∀ b w',w.heap.size≤b→Sep S Sd w0 w' (.map b [] 0::rs) A→Rg fr dst (.map (some b)) fun za=>K za ds w'):Pd P (Oper.mk dst (.makeMap T none) ty pos after g) fr ds w K Q:=by
 obtain ⟨za,tb⟩:=Mh fr dst (.map (some w.heap.size));refine eh (v:=.map (some w.heap.size)) (w':=w.alloc (.map #[] 0)) ?_ tb (h _ _ (Nat.le_refl _) (a.alloc rfl (heap_alloc_new w _)) za tb);simp [execOp,Instr.makeMap]
def lk (es:List MapEntry) (k z:Value):Value:=(yk es k).elim z (·.2)
def Qo (es:List MapEntry) (k:Value):Bool:=(yk es k).isSome
def putAt (es:List MapEntry) (c:Nat) (k v:Value):List MapEntry:=match yk es k with
 | some (i,_)=>es.modify i fun e=>{ e with key:=k,val:=v }
 | none=>es++[{ key:=k,val:=v,born:=c }]
def Zl (es:List MapEntry) (c:Nat) (k:Value):Nat:=match yk es k with
 | some _=>c
 | none=>c+1
theorem JD {es:List MapEntry}{k v:Value}{i:Nat}(h:yk es k=some (i,v)):∃ e,es[i]?=some e∧sj k e.key=true∧e.val=v:=by
 unfold yk at h;cases a:es.zipIdx.find? fun e=>sj k e.1.key with
 | none=>rw [a] at h; cases h
 | some x =>
  rw [a] at h;simp only [Option.map_some,Option.some.injEq,Prod.mk.injEq] at h;obtain ⟨rfl,rfl⟩:=h;have b:=List.find?_some (p:=fun e:MapEntry×Nat=>sj k e.1.key) a;have c:=List.mem_of_find?_eq_some a;exact ⟨x.1,by have:=List.mem_zipIdx_iff_getElem?.1 c;simpa using this,b,rfl⟩
theorem wE {d:TypeDesc}{k a:Value}(c:Fj d k) (b:Fj d a) (h:sj k a=true):Instr.sameBits 10000 a k=true:=by
 cases c with
 | str l =>
  cases b with
  | str e =>
   simp [sj,vc.S] at h;subst h;simp only [Instr.sameBits,vc.S];exact (nx _ _).2 rfl
 | int kk n =>
  cases b with
  | int _ f =>
   simp [sj] at h;subst h;simp [Instr.sameBits]
theorem KB {x y z:Operand}{ff aa:TypeId}{d:TypeDesc}{Hf v:Value}{b c k:Nat}{es:List MapEntry}(m:P.underlying T=some (.map ff aa)) (n:P.underlying ff=some d) (o:rb fr x (.map (some b))) (p:rb fr y Hf) (a:Fj d Hf) (q:rb fr z v)
  (r:Sep S Sd w0 w rs A) (s:Bc rs k (.map b es c)) (he:∀ e ∈ es,Fj d e.key)
  (tb:tf fr dst undef za) (h:∀ w' rs',wc rs k (.map b (putAt es c Hf v) (Zl es c Hf)) rs'→Sep S Sd w0 w' rs' A→K za ds w'):Pd P (Oper.mk dst (.mapUpdate T x y z) ty pos after g) fr ds w K Q:=by
 have f:w.heap[b]?=some (.map ⟨es⟩ c):=r.get s;have D:b<w.heap.size:=(Array.getElem?_eq_some_iff.1 f).1
 let w':World:={ w with heap:=w.heap.setIfInBounds b (.map ⟨putAt es c Hf v⟩ (Zl es c Hf)) }
 have E:gi (fun k=>k≠b) w w':=⟨rfl,rfl,rfl,by simp [w'],fun j _ F=>by simp [w',Array.getElem?_setIfInBounds,Ne.symm F]⟩;have G:=r.put (b:=b) (r':=.map b (putAt es c Hf v) (Zl es c Hf)) (w':=w') s rfl rfl rfl (by show w'.heap[b]?=_;simp [w',D]) E;have t:=run_checkKey (P:=P) (w:=w) (b:=false) n a;have B:=run_findKey (P:=P) (w:=w) n a he;refine Yy (w':=w') ?_ tb (h w' _ rfl G);cases l:yk es Hf with
 | none=>simp [execOp,o ds,p ds,q ds,Instr.mapUpdate,run_underlying m,getObj,setObj,Sem.run,f,Result.andThen,t,B,l,w',putAt,Zl]
 | some e =>
  obtain ⟨i,u⟩:=e;obtain ⟨e,C,H,-⟩:=JD l;have M:=wE a (he e (List.mem_of_getElem? C)) H;simp [execOp,o ds,p ds,q ds,Instr.mapUpdate,run_underlying m,getObj,setObj,Sem.run,f,Result.andThen,t,B,l,C,Instr.keyThatStays,M,w',putAt,Zl]
theorem ZE {x:Operand}{ff aa:TypeId}{m c k:Nat}{es:List MapEntry}(d:P.underlying T=some (.map ff aa)) (e:rb fr x (.map (some m))) (a:Sep S Sd w0 w rs A) (f:Bc rs k (.map m es c))
  (h:∀ b w',w.heap.size≤b→Sep S Sd w0 w' (.lj b m c [] c::rs) A→Rg fr dst (.pointer (some ⟨b,0,none⟩)) fun za=>K za ds w'):Pd P (Oper.mk dst (.range T x) ty pos after g) fr ds w K Q:=by
 have i:w.heap[m]?=some (.map ⟨es⟩ c):=a.get f;obtain ⟨za,tb⟩:=Mh fr dst (.pointer (some ⟨w.heap.size,0,none⟩));refine eh (v:=.pointer (some ⟨w.heap.size,0,none⟩)) (w':=w.alloc (.mapIter (some m) c #[] c)) ?_ tb (h _ _ (Nat.le_refl _) (a.alloc rfl (heap_alloc_new w _)) za tb);simp [execOp,e ds,Instr.range,run_underlying d,getObj,Sem.run,i,Result.andThen]
end
end Go.vc
namespace Go.jd
open Go.vc Go.RowKit
section
variable {P:Program}{Q:Exit→Act→World→Prop}{K:List Value→List Deferred→World→Prop}{fr za:List Value}{ds:List Deferred}{w:World}
variable {dst:Option Tmp}{ty:TypeId}{pos:String}{after:Array Edge}{g:Option (Nat×Bool)}
variable {w0:World}{rs rs':List Gb}{μ J:M}
variable {T:TypeId}{d:TypeDesc}{Gf:Bool}{Kd:List Value}{n m:Nat}
theorem iB {x y:Operand}{ff aa:TypeId}{d:TypeDesc}{Hf z:Value}{b c:Nat}{es:List MapEntry}(a:P.underlying T=some (.map ff aa)) (f:P.underlying ff=some d) (i:rb fr x (.map (some b))) (j:rb fr y Hf) (k:Fj d Hf)
  (p:∀ w,(zeroValue aa).run P w=.ok z w) (l:w.heap[b]?=some (.map ⟨es⟩ c)) (he:∀ e ∈ es,Fj d e.key)
  (q:tf fr dst (lk es Hf z) za) (h:K za ds w):Pd P (Oper.mk dst (.lookup T x y false) ty pos after g) fr ds w K Q:=by
 refine eh (w':=w) ?_ q h;have m:=run_checkKey (w:=w) (b:=es.isEmpty) f k;have n:=run_findKey (w:=w) f k he;cases o:yk es Hf with
 | none=>simp [execOp,i ds,j ds,Instr.lookup,run_underlying a,getObj,Sem.run,l,Result.andThen,m,n,o,p w,lk]
 | some e=>simp [execOp,i ds,j ds,Instr.lookup,run_underlying a,getObj,Sem.run,l,Result.andThen,m,n,o,lk]
theorem LA {x y:Operand}{ff aa:TypeId}{d:TypeDesc}{Hf z:Value}{b c:Nat}{es:List MapEntry}(a:P.underlying T=some (.map ff aa)) (f:P.underlying ff=some d) (i:rb fr x (.map (some b))) (j:rb fr y Hf) (k:Fj d Hf)
  (p:∀ w,(zeroValue aa).run P w=.ok z w) (l:w.heap[b]?=some (.map ⟨es⟩ c)) (he:∀ e ∈ es,Fj d e.key)
  (q:tf fr dst (.tuple #[lk es Hf z,.bool (Qo es Hf)]) za) (h:K za ds w):Pd P (Oper.mk dst (.lookup T x y true) ty pos after g) fr ds w K Q:=by
 refine eh (w':=w) ?_ q h;have m:=run_checkKey (w:=w) (b:=es.isEmpty) f k;have n:=run_findKey (w:=w) f k he;cases o:yk es Hf with
 | none=>simp [execOp,i ds,j ds,Instr.lookup,run_underlying a,getObj,Sem.run,l,Result.andThen,m,n,o,p w,lk,Qo]
 | some e=>simp [execOp,i ds,j ds,Instr.lookup,run_underlying a,getObj,Sem.run,l,Result.andThen,m,n,o,lk,Qo]
class Ab (κ:Type) [DecidableEq κ] where
 key:κ→Value
 Cl:TypeDesc
 ff:∀ k,Fj Cl (key k)
 eq:∀ a b,sj (key a) (key b)=decide (a=b)
instance:Ab (List UInt8) where
 key:=S
 Cl:=.string
 ff:=.str
 eq a b:=by simp [sj,S]
instance:Ab Int where
 key n:=.int .i64 n
 Cl:=.int .i64
 ff:=.int .i64
 eq a b:=by simp [sj]
class Kh (β:Type) where
 mj:M→Value→β→Prop
 up:∀ {μ J:M}{v:Value}{x:β},ga μ J→mj μ v x→mj J v x
instance:Kh Int where
 mj _ v x:=v=.int .i64 x
 up _ h:=h
def Wm {α:Type}[Wa α] (μ:M) (v:Value) (x:α):Prop:=∃ cs,v=.agg ⟨cs⟩∧Wa.cs μ cs x
theorem Wm.up {α:Type}[Wa α]{v:Value}{x:α}(l:ga μ J) (h:Wm μ v x):Wm J v x:=by
 obtain ⟨cs,a,b⟩:=h;exact ⟨cs,a,Wa.up l b⟩
def km {α:Type}[Wa α] (μ:M) (v:Value) (x:α):Prop:=∃ b o cs,v=.pointer (some ⟨b,o,none⟩)∧xc μ b o cs∧Wa.cs μ cs x
theorem km.up {α:Type}[Wa α]{v:Value}{x:α}(l:ga μ J) (h:km μ v x):km J v x:=by
 obtain ⟨b,o,cs,a,c,d⟩:=h;exact ⟨b,o,cs,a,c.up l,Wa.up l d⟩
def Me {α:Type}[Wa α] (μ:M) (v:Value):Option α→Prop
 | none=>v=.pointer none
 | some x=>km μ v x
theorem Me.up {α:Type}[Wa α]{v:Value}{x:Option α}(h:Me μ v x) (l:ga μ J):Me J v x:=by
 cases x with
 | none=>exact h
 | some x=>exact km.up l h
theorem Me.Od {α:Type}[Wa α]{v:Value}{x:Option α}(h:Me μ v x):Od v=true:=by
 cases x with
 | none=>rw [show v=.pointer none from h]; rfl
 | some x=>obtain ⟨b,o,cs,rfl,-⟩:=h; rfl
theorem Me.of {α:Type}[Wa α]{b o:Nat}{cs:List Value}{x:α}(h:xc μ b o cs) (k:Wa.cs μ cs x):Me μ (.pointer (some ⟨b,o,none⟩)) (some x):=⟨b,o,cs,rfl,h,k⟩
theorem Me.get {α:Type}[Wa α]{v:Value}{o:Option α}{x:α}(h:Me μ v o) (g:o=some x):∃ b o cs,v=.pointer (some ⟨b,o,none⟩)∧xc μ b o cs∧Wa.cs μ cs x:=by
 subst g;exact h
instance {α:Type}[Wa α]:Wa (Option α) where
 sz:=1
 pos:=by decide
 cs μ l x:=∃ v,l=[v]∧Me μ v x
 sh h:=by obtain ⟨v,rfl,-⟩:=h;rfl
 up l h:=by obtain ⟨v,a,b⟩:=h;exact ⟨v,a,b.up l⟩
 Ug h:=by obtain ⟨v,rfl,h⟩:=h;simp [h.Od]
def pf {κ β:Type}[DecidableEq κ]:List (κ×β)→κ→Option β
 | [],_=>none
 | (a,b)::m,k=>if a=k then some b else pf m k
def Ce {κ β:Type}[DecidableEq κ]:List (κ×β)→κ→β→List (κ×β)
 | [],k,x=>[(k,x)]
 | (a,b)::m,k,x=>if a=k then (k,x)::m else (a,b)::Ce m k x
def rf {κ β:Type}[DecidableEq κ] [Ab κ] [Kh β] (μ:M):List MapEntry→List (κ×β)→Prop
 | [],m=>m=[]
 | e::es,m=>∃ k x t,m=(k,x)::t∧e.key=Ab.key k∧Kh.mj μ e.val x∧rf μ es t
structure Hd {κ β:Type}[DecidableEq κ] [Ab κ] [Kh β] (μ:M) (es:List MapEntry) (c:Nat) (m:List (κ×β)):Prop where
 Hf:rf μ es m
 lt:∀ e ∈ es,e.born<c
 inc:es.Pairwise fun a b=>a.born<b.born
variable {κ β:Type}[DecidableEq κ] [Ab κ] [Kh β]
theorem rf.up (l:ga μ J):∀ {es:List MapEntry}{m:List (κ×β)},rf μ es m→rf J es m
 | [],m,h=>by rw [rf] at h ⊢; exact h
 | e::es,m,h=>by
  rw [rf] at h ⊢;obtain ⟨k,x,t,a,b,c,d⟩:=h;exact ⟨k,x,t,a,b,Kh.up l c,rf.up l d⟩
theorem Hd.up {es:List MapEntry}{c:Nat}{m:List (κ×β)}(h:Hd μ es c m) (l:ga μ J):Hd J es c m:=⟨h.Hf.up l,h.lt,h.inc⟩
theorem rf.keys:∀ {es:List MapEntry}{m:List (κ×β)},rf μ es m→∀ e ∈ es,Fj (Ab.Cl (κ:=κ)) e.key
 | [],m,_,e,he=>by cases he
 | e::es,m,h,a,he=>by
  rw [rf] at h;obtain ⟨k,x,t,d,b,f,c⟩:=h;rcases List.mem_cons.1 he with rfl | he
  ·rw [b];exact Ab.ff k
  ·exact rf.keys c a he
theorem rf.len:∀ {es:List MapEntry}{m:List (κ×β)},rf μ es m→es.length=m.length
 | [],m,h=>by rw [rf] at h; simp [h]
 | e::es,m,h=>by
  rw [rf] at h;obtain ⟨k,x,t,rfl,b,c,a⟩:=h;simp [rf.len a]
def Zj (Hf:Value):List MapEntry→Option (Nat×Value)
 | []=>none
 | e::es=>if sj Hf e.key then some (0,e.val) else (Zj Hf es).map fun p=>(p.1+1,p.2)
theorem jB (Hf:Value):∀ (es:List MapEntry) (i:Nat),(((es.zipIdx i).find? fun e=>sj Hf e.1.key).map fun e=>(e.2,e.1.val))=(Zj Hf es).map fun p=>(p.1+i,p.2)
 | [],i=>rfl
 | e::es,i=>by
  rw [List.zipIdx_cons,List.find?_cons,Zj];cases h:sj Hf e.key with
  | true=>simp
  | false =>
   simp only [Bool.false_eq_true,if_false];rw [jB Hf es (i+1),Option.map_map];congr 1;funext p;simp;omega
theorem Vt (es:List MapEntry) (Hf:Value):yk es Hf=Zj Hf es:=by
 unfold yk;rw [jB];cases Zj Hf es<;>simp
theorem rf.look:∀ {es:List MapEntry}{m:List (κ×β)},rf μ es m→∀ k:κ,(match Zj (Ab.key k) es with | none=>pf m k=none | some p=>∃ x,pf m k=some x∧Kh.mj μ p.2 x)
 | [],m,h,k=>by rw [rf] at h; subst h; rfl
 | e::es,m,h,k=>by
  rw [rf] at h;obtain ⟨d,x,t,rfl,f,g,i⟩:=h;rw [Zj,pf,f,Ab.eq];have a:=rf.look i k;by_cases b:k=d
  ·subst b;simp;exact g
  ·rw [if_neg (by simpa using b),if_neg (fun e=>b e.symm)];cases c:Zj (Ab.key k) es with
   | none=>rw [c] at a; exact a
   | some p=>rw [c] at a; exact a
theorem rf.get {es:List MapEntry}{m:List (κ×β)}(h:rf μ es m) (k:κ){z:Value}{zx:β}(b:Kh.mj μ z zx):Kh.mj μ (lk es (Ab.key k) z) ((pf m k).getD zx):=by
 have:=h.look k;unfold lk;rw [Vt];cases a:Zj (Ab.key k) es with
 | none=>rw [a] at this; simp only at this; rw [this]; exact b
 | some p=>rw [a] at this; obtain ⟨x,c,d⟩:=this; rw [c]; exact d
theorem rf.has {es:List MapEntry}{m:List (κ×β)}(h:rf μ es m) (k:κ):Qo es (Ab.key k)=(pf m k).isSome:=by
 have:=h.look k;unfold Qo;rw [Vt];cases a:Zj (Ab.key k) es with
 | none=>rw [a] at this; simp only at this; rw [this]; rfl
 | some p=>rw [a] at this; obtain ⟨x,b,c⟩:=this; rw [b]; rfl
theorem rf.put:∀ {es:List MapEntry}{m:List (κ×β)},rf μ es m→∀ (k:κ){v:Value}{x:β},Kh.mj μ v x→∀ c,rf μ (match Zj (Ab.key k) es with | some (i,_)=>es.modify i fun e=>{ e with key:=Ab.key k,val:=v } | none=>es++[{ key:=Ab.key k,val:=v,born:=c }]) (Ce m k x)
 | [],m,h,k,v,x,a,c=>by
  rw [rf] at h;subst h;exact ⟨k,x,[],rfl,rfl,a,rfl⟩
 | e::es,m,h,k,v,x,a,c=>by
  rw [rf] at h;obtain ⟨d,j,t,rfl,f,l,n⟩:=h;rw [Zj,Ce,f,Ab.eq];have b:=rf.put n k a c;by_cases g:k=d
  ·subst g;simp;exact ⟨k,x,t,rfl,rfl,a,n⟩
  ·rw [if_neg (by simpa using g),if_neg (fun e=>g e.symm)];cases o:Zj (Ab.key k) es with
   | none=>rw [o] at b; exact ⟨d,j,_,rfl,f,l,b⟩
   | some p=>rw [o] at b; exact ⟨d,j,_,rfl,f,l,b⟩
theorem Hd.put {es:List MapEntry}{c:Nat}{m:List (κ×β)}(h:Hd μ es c m) (k:κ){v:Value}{x:β}(o:Kh.mj μ v x):Hd μ (putAt es c (Ab.key k) v) (Zl es c (Ab.key k)) (Ce m k x):=by
 have d:=h.Hf.put k o c;have ra:∀ i,(es.modify i fun e=>{ e with key:=Ab.key k,val:=v }).map (·.born)=es.map (·.born):=by
  intro i;refine List.ext_getElem (by simp) fun j y z=>?_;simp only [List.getElem_map,List.getElem_modify];split<;>rfl
 have q:∀ l:List MapEntry,l.map (·.born)=es.map (·.born)→∀ e ∈ l,e.born<c:=fun l g e he=>by
  have hm:e.born ∈ es.map (·.born):=g ▸ List.mem_map_of_mem he;obtain ⟨r,s,f⟩:=List.mem_map.1 hm;rw [← f];exact h.lt r s
 have t:∀ l:List MapEntry,l.map (·.born)=es.map (·.born)→l.Pairwise fun a b=>a.born<b.born:=fun l g=>by
  have:(es.map (·.born)).Pairwise (·<·):=List.pairwise_map.2 h.inc;rw [← g] at this;exact List.pairwise_map.1 this
 unfold putAt Zl;rw [Vt];cases n:Zj (Ab.key k) es with
 | some p =>
  obtain ⟨i,u⟩:=p;rw [n] at d;exact ⟨d,q _ (ra i),t _ (ra i)⟩
 | none =>
  rw [n] at d;refine ⟨d,fun e he=>?_,?_⟩
  ·rcases List.mem_append.1 he with he | he
   ·exact Nat.lt_succ_of_lt (h.lt e he)
   ·simp at he;subst he;exact Nat.lt_succ_self _
  ·rw [List.pairwise_append];refine ⟨h.inc,by simp,fun a w b f=>?_⟩;simp at f;subst f;exact h.lt a w
theorem Hd.nil {c:Nat}:Hd (κ:=κ) (β:=β) μ [] c []:=⟨rfl,by simp,by simp⟩
def Xf (μ:M) (b:Nat) (m:List (κ×β)):Prop:=∃ es c,(∀ w,μ w→w.heap[b]?=some (.map ⟨es⟩ c))∧Hd μ es c m
theorem Xf.up {b:Nat}{m:List (κ×β)}(h:Xf μ b m) (l:ga μ J):Xf J b m:=by
 obtain ⟨es,c,a,d⟩:=h;exact ⟨es,c,fun w hw=>a w (l w hw),d.up l⟩
theorem _root_.Go.vc.Sep.Gm {b c:Nat}{es:List MapEntry}{m:List (κ×β)}(h:la μ w0 w (.map b es c::rs)) (hm:Hd μ es c m):∃ J,ga μ J∧Xf J b m∧la J w0 w rs :=
 ⟨_,fun _ hw=>hw.1,⟨es,c,fun _ hw=>hw.2,hm.up fun _ hw=>hw.1⟩,Sep.Dv (B:=fun w=>w.heap[b]?=some (.map ⟨es⟩ c)) h fun _ hw=>hw⟩
theorem Ox {x y:Operand}{ff aa:TypeId}{z:Value}{b c:Nat}{es:List MapEntry}{m:List (κ×β)}{k:κ}{zx:β}(a:P.underlying T=some (.map ff aa)) (d:P.underlying ff=some (Ab.Cl (κ:=κ))) (e:rb fr x (.map (some b))) (f:rb fr y (Ab.key k))
  (i:∀ w,(zeroValue aa).run P w=.ok z w) (j:Kh.mj μ z zx) (l:w.heap[b]?=some (.map ⟨es⟩ c)) (he:Hd μ es c m)
  (h:∀ v,Kh.mj μ v ((pf m k).getD zx)→Rg fr dst (.tuple #[v,.bool (pf m k).isSome]) fun za=>K za ds w):Pd P (Oper.mk dst (.lookup T x y true) ty pos after g) fr ds w K Q:=by
 obtain ⟨za,tb⟩:=Mh fr dst (.tuple #[lk es (Ab.key k) z,.bool (Qo es (Ab.key k))]);refine LA a d e f (Ab.ff k) i l he.Hf.keys tb ?_;rw [he.Hf.has k] at tb;exact h _ (he.Hf.get k j) za tb
theorem Cm {x y:Operand}{ff aa:TypeId}{z:Value}{b c:Nat}{es:List MapEntry}{m:List (κ×β)}{k:κ}{zx:β}(a:P.underlying T=some (.map ff aa)) (d:P.underlying ff=some (Ab.Cl (κ:=κ))) (e:rb fr x (.map (some b))) (f:rb fr y (Ab.key k))
  (i:∀ w,(zeroValue aa).run P w=.ok z w) (j:Kh.mj μ z zx) (l:w.heap[b]?=some (.map ⟨es⟩ c)) (he:Hd μ es c m)
  (h:∀ v,Kh.mj μ v ((pf m k).getD zx)→Rg fr dst v fun za=>K za ds w):Pd P (Oper.mk dst (.lookup T x y false) ty pos after g) fr ds w K Q:=by
 obtain ⟨za,tb⟩:=Mh fr dst (lk es (Ab.key k) z);refine iB a d e f (Ab.ff k) i l he.Hf.keys tb ?_;exact h _ (he.Hf.get k j) za tb
theorem rf.tC {α:Type}[Wa α] [Kh α] (hrv:∀ (v:Value) (x:α),Kh.mj μ v x→km μ v x){es:List MapEntry}{m:List (κ×α)}(h:rf μ es m) (k:κ):Me μ (lk es (Ab.key k) (.pointer none)) (pf m k):=by
 have:=h.look k;unfold lk;rw [Vt];cases a:Zj (Ab.key k) es with
 | none=>rw [a] at this; simp only at this; rw [this]; rfl
 | some p=>rw [a] at this; obtain ⟨x,b,c⟩:=this; rw [b]; exact hrv _ _ c
theorem MA {α:Type}[Wa α] [Kh α] (hrv:∀ (v:Value) (x:α),Kh.mj μ v x→km μ v x){x y:Operand}{ff aa:TypeId}{b c:Nat}{es:List MapEntry}{m:List (κ×α)}{k:κ}(a:P.underlying T=some (.map ff aa)) (d:P.underlying ff=some (Ab.Cl (κ:=κ))) (e:rb fr x (.map (some b))) (f:rb fr y (Ab.key k))
  (i:∀ w,(zeroValue aa).run P w=.ok (.pointer none) w) (j:w.heap[b]?=some (.map ⟨es⟩ c)) (he:Hd μ es c m)
  (h:∀ v,Me μ v (pf m k)→Rg fr dst (.tuple #[v,.bool (pf m k).isSome]) fun za=>K za ds w):Pd P (Oper.mk dst (.lookup T x y true) ty pos after g) fr ds w K Q:=by
 obtain ⟨za,tb⟩:=Mh fr dst (.tuple #[lk es (Ab.key k) (.pointer none),.bool (Qo es (Ab.key k))]);refine LA a d e f (Ab.ff k) i j he.Hf.keys tb ?_;rw [he.Hf.has k] at tb;exact h _ (he.Hf.tC hrv k) za tb
theorem Mp {α:Type}[Wa α] [Kh α] (hrv:∀ (v:Value) (x:α),Kh.mj μ v x→km μ v x){x y:Operand}{ff aa:TypeId}{b c:Nat}{es:List MapEntry}{m:List (κ×α)}{k:κ}(a:P.underlying T=some (.map ff aa)) (d:P.underlying ff=some (Ab.Cl (κ:=κ))) (e:rb fr x (.map (some b))) (f:rb fr y (Ab.key k))
  (i:∀ w,(zeroValue aa).run P w=.ok (.pointer none) w) (j:w.heap[b]?=some (.map ⟨es⟩ c)) (he:Hd μ es c m)
  (h:∀ v,Me μ v (pf m k)→Rg fr dst v fun za=>K za ds w):Pd P (Oper.mk dst (.lookup T x y false) ty pos after g) fr ds w K Q:=by
 obtain ⟨za,tb⟩:=Mh fr dst (lk es (Ab.key k) (.pointer none));refine iB a d e f (Ab.ff k) i j he.Hf.keys tb ?_;exact h _ (he.Hf.tC hrv k) za tb
theorem Ir {aa:TypeId}{z:Value}(h:(P.info? aa).map (fun i=>i.zero)=some (some z)):∀ w,(zeroValue aa).run P w=.ok z w:=fun w=>by
 cases gb:P.info? aa with
 | none=>rw [gb] at h; cases h
 | some i =>
  rw [gb] at h;simp only [Option.map_some,Option.some.injEq] at h;simp [zeroValue,typeInfo,gb,h]
theorem vn {x y z:Operand}{ff aa:TypeId}{v:Value}{b c k:Nat}{es:List MapEntry}{kk:κ}{m:List (κ×β)}{xx:β}(d:P.underlying T=some (.map ff aa)) (e:P.underlying ff=some (Ab.Cl (κ:=κ))) (f:rb fr x (.map (some b))) (i:rb fr y (Ab.key kk)) (j:rb fr z v) (l:Kh.mj μ v xx)
  (n:la μ w0 w rs) (o:Bc rs k (.map b es c)) (he:Hd μ es c m)
  (tb:tf fr dst undef za) (h:∀ a c' w' rs',Hd μ a c' (Ce m kk xx)→wc rs k (.map b a c') rs'→la μ w0 w' rs'→K za ds w'):Pd P (Oper.mk dst (.mapUpdate T x y z) ty pos after g) fr ds w K Q :=
 KB d e f i (Ab.ff kk) j n o he.Hf.keys tb fun w' rs'=>h _ _ w' rs' (he.put kk l)
theorem Vj {x y z:Operand}{ff aa:TypeId}{v:Value}{b c k:Nat}{es:List MapEntry}{kk:κ}{m:List (κ×β)}{xx:β}(d:P.underlying T=some (.map ff aa)) (e:P.underlying ff=some (Ab.Cl (κ:=κ))) (f:rb fr x (.map (some b))) (i:rb fr y (Ab.key kk)) (j:rb fr z v) (l:Kh.mj μ v xx)
  (n:la μ w0 w rs) (o:Bc rs k (.map b es c)) (he:Hd μ es c m)
  (tb:tf fr dst undef za) (h:∀ a c' w' rs',Hd μ a c' (Ce m kk xx)→wc rs k (.map b a c') rs'→la μ w0 w' rs'→K za ds w'):Pd P (Oper.mk dst (.insert T x y z) ty pos after g) fr ds w K Q :=
 ⟨fun p q=>(vn (dst:=dst) (ty:=ty) (pos:=pos) (after:=after) (g:=g) d e f i j l n o he tb h).out p q⟩
theorem LB {x:Operand}{ff aa:TypeId}{b c:Nat}{es:List MapEntry}{m:List (κ×β)}(a:P.underlying T=some (.map ff aa)) (d:rb fr x (.map (some b))) (e:w.heap[b]?=some (.map ⟨es⟩ c)) (he:Hd μ es c m)
  (f:tf fr dst (.int .i64 m.length) za) (h:K za ds w):Pd P (Oper.mk dst (.call { callee:=.builtin .len,args:=#[x],argTypes:=#[T] }) ty pos after g) fr ds w K Q:=by
 refine eh (w':=w) ?_ f h;have:=he.Hf.len;simp [execOp,resolve,invoke,builtin,Builtin.len_,goInt,d ds,run_underlying a,getObj,Sem.run,e,Result.andThen,this]
end
end Go.jd
namespace Go.vc
abbrev kh (m:List Ab):List Ab:=.k::m
abbrev Ed (s:Nat) (m:List Ab):List Ab:=.o s::m
theorem We {m:List Ab}{a0:Value}{l a:List Value}(h:Ke m l a):Ke (kh m) (a0::l) (a0::a):=(.k h)
theorem db {m:List Ab}{s:Nat}{a0 b:Value}{l a:List Value}(h:Ke m l a):Ke (Ed s m) (a0::l) (b::a):=(.o h)
theorem zh {t:Nat→Value}{m:List Ab}{a0:Value}{l a:List Value}(h:bf t m l a):bf t (kh m) (a0::l) (a0::a):=(mk h)
theorem Md {t:Nat→Value}{m:List Ab}{s:Nat}{a0:Value}{l a:List Value}(h:bf t m l a):bf t (Ed s m) (a0::l) (t s::a):=(Lc h)
abbrev gg (m:List Ab):List Ab:=.k::.k::m
abbrev Wf (s:Nat) (m:List Ab):List Ab:=.o s::.o (s+1)::m
theorem ed {m:List Ab}{a0 pa:Value}{l a:List Value}(h:Ke m l a):Ke (gg m) (a0::pa::l) (a0::pa::a):=(.k (.k h))
theorem Fc {m:List Ab}{s:Nat}{a0 pa b V:Value}{l a:List Value}(h:Ke m l a):Ke (Wf s m) (a0::pa::l) (b::V::a):=(.o (.o h))
theorem og {t:Nat→Value}{m:List Ab}{a0 pa:Value}{l a:List Value}(h:bf t m l a):bf t (gg m) (a0::pa::l) (a0::pa::a):=(mk (mk h))
theorem hg {t:Nat→Value}{m:List Ab}{s:Nat}{a0 pa:Value}{l a:List Value}(h:bf t m l a):bf t (Wf s m) (a0::pa::l) (t s::t (s+1)::a):=(Lc (Lc h))
abbrev Cg (m:List Ab):List Ab:=.k::.k::.k::m
abbrev qi (s:Nat) (m:List Ab):List Ab:=.o s::.o (s+1)::.o (s+2)::m
theorem hd {m:List Ab}{a0 pa a2:Value}{l a:List Value}(h:Ke m l a):Ke (Cg m) (a0::pa::a2::l) (a0::pa::a2::a):=(.k (.k (.k h)))
theorem Sf {m:List Ab}{s:Nat}{a0 pa a2 b V c:Value}{l a:List Value}(h:Ke m l a):Ke (qi s m) (a0::pa::a2::l) (b::V::c::a):=(.o (.o (.o h)))
theorem Fg {t:Nat→Value}{m:List Ab}{a0 pa a2:Value}{l a:List Value}(h:bf t m l a):bf t (Cg m) (a0::pa::a2::l) (a0::pa::a2::a):=(mk (mk (mk h)))
theorem Ii {t:Nat→Value}{m:List Ab}{s:Nat}{a0 pa a2:Value}{l a:List Value}(h:bf t m l a):bf t (qi s m) (a0::pa::a2::l) (t s::t (s+1)::t (s+2)::a):=(Lc (Lc (Lc h)))
abbrev Dg (m:List Ab):List Ab:=.k::.k::.k::.k::m
abbrev Zh (s:Nat) (m:List Ab):List Ab:=.o s::.o (s+1)::.o (s+2)::.o (s+3)::m
theorem Jd {m:List Ab}{a0 pa a2 a3:Value}{l a:List Value}(h:Ke m l a):Ke (Dg m) (a0::pa::a2::a3::l) (a0::pa::a2::a3::a):=(.k (.k (.k (.k h))))
theorem ze {m:List Ab}{s:Nat}{a0 pa a2 a3 b V c Ra:Value}{l a:List Value}(h:Ke m l a):Ke (Zh s m) (a0::pa::a2::a3::l) (b::V::c::Ra::a):=(.o (.o (.o (.o h))))
theorem Gg {t:Nat→Value}{m:List Ab}{a0 pa a2 a3:Value}{l a:List Value}(h:bf t m l a):bf t (Dg m) (a0::pa::a2::a3::l) (a0::pa::a2::a3::a):=(mk (mk (mk (mk h))))
theorem wi {t:Nat→Value}{m:List Ab}{s:Nat}{a0 pa a2 a3:Value}{l a:List Value}(h:bf t m l a):bf t (Zh s m) (a0::pa::a2::a3::l) (t s::t (s+1)::t (s+2)::t (s+3)::a):=(Lc (Lc (Lc (Lc h))))
abbrev ig (m:List Ab):List Ab:=.k::.k::.k::.k::.k::m
abbrev Al (s:Nat) (m:List Ab):List Ab:=.o s::.o (s+1)::.o (s+2)::.o (s+3)::.o (s+4)::m
theorem Zb {m:List Ab}{a0 pa a2 a3 a4:Value}{l a:List Value}(h:Ke m l a):Ke (ig m) (a0::pa::a2::a3::a4::l) (a0::pa::a2::a3::a4::a):=(.k (.k (.k (.k (.k h)))))
theorem Kj {m:List Ab}{s:Nat}{a0 pa a2 a3 a4 b V c Ra yf:Value}{l a:List Value}(h:Ke m l a):Ke (Al s m) (a0::pa::a2::a3::a4::l) (b::V::c::Ra::yf::a):=(.o (.o (.o (.o (.o h)))))
theorem pg {t:Nat→Value}{m:List Ab}{a0 pa a2 a3 a4:Value}{l a:List Value}(h:bf t m l a):bf t (ig m) (a0::pa::a2::a3::a4::l) (a0::pa::a2::a3::a4::a):=(mk (mk (mk (mk (mk h)))))
theorem Sm {t:Nat→Value}{m:List Ab}{s:Nat}{a0 pa a2 a3 a4:Value}{l a:List Value}(h:bf t m l a):bf t (Al s m) (a0::pa::a2::a3::a4::l) (t s::t (s+1)::t (s+2)::t (s+3)::t (s+4)::a):=(Lc (Lc (Lc (Lc (Lc h)))))
abbrev lh (m:List Ab):List Ab:=.k::.k::.k::.k::.k::.k::m
abbrev Rj (s:Nat) (m:List Ab):List Ab:=.o s::.o (s+1)::.o (s+2)::.o (s+3)::.o (s+4)::.o (s+5)::m
theorem ee {m:List Ab}{a0 pa a2 a3 a4 a5:Value}{l a:List Value}(h:Ke m l a):Ke (lh m) (a0::pa::a2::a3::a4::a5::l) (a0::pa::a2::a3::a4::a5::a):=(.k (.k (.k (.k (.k (.k h))))))
theorem kg {m:List Ab}{s:Nat}{a0 pa a2 a3 a4 a5 b V c Ra yf jg:Value}{l a:List Value}(h:Ke m l a):Ke (Rj s m) (a0::pa::a2::a3::a4::a5::l) (b::V::c::Ra::yf::jg::a):=(.o (.o (.o (.o (.o (.o h))))))
theorem Ah {t:Nat→Value}{m:List Ab}{a0 pa a2 a3 a4 a5:Value}{l a:List Value}(h:bf t m l a):bf t (lh m) (a0::pa::a2::a3::a4::a5::l) (a0::pa::a2::a3::a4::a5::a):=(mk (mk (mk (mk (mk (mk h))))))
theorem qk {t:Nat→Value}{m:List Ab}{s:Nat}{a0 pa a2 a3 a4 a5:Value}{l a:List Value}(h:bf t m l a):bf t (Rj s m) (a0::pa::a2::a3::a4::a5::l) (t s::t (s+1)::t (s+2)::t (s+3)::t (s+4)::t (s+5)::a):=(Lc (Lc (Lc (Lc (Lc (Lc h))))))
abbrev Ri (m:List Ab):List Ab:=.k::.k::.k::.k::.k::.k::.k::m
abbrev tj (s:Nat) (m:List Ab):List Ab:=.o s::.o (s+1)::.o (s+2)::.o (s+3)::.o (s+4)::.o (s+5)::.o (s+6)::m
theorem lg {m:List Ab}{a0 pa a2 a3 a4 a5 dc:Value}{l a:List Value}(h:Ke m l a):Ke (Ri m) (a0::pa::a2::a3::a4::a5::dc::l) (a0::pa::a2::a3::a4::a5::dc::a):=(.k (.k (.k (.k (.k (.k (.k h)))))))
theorem ah {m:List Ab}{s:Nat}{a0 pa a2 a3 a4 a5 dc b V c Ra yf jg Yf:Value}{l a:List Value}(h:Ke m l a):Ke (tj s m) (a0::pa::a2::a3::a4::a5::dc::l) (b::V::c::Ra::yf::jg::Yf::a):=(.o (.o (.o (.o (.o (.o (.o h)))))))
theorem fj {t:Nat→Value}{m:List Ab}{a0 pa a2 a3 a4 a5 dc:Value}{l a:List Value}(h:bf t m l a):bf t (Ri m) (a0::pa::a2::a3::a4::a5::dc::l) (a0::pa::a2::a3::a4::a5::dc::a):=(mk (mk (mk (mk (mk (mk (mk h)))))))
theorem Sj {t:Nat→Value}{m:List Ab}{s:Nat}{a0 pa a2 a3 a4 a5 dc:Value}{l a:List Value}(h:bf t m l a):bf t (tj s m) (a0::pa::a2::a3::a4::a5::dc::l) (t s::t (s+1)::t (s+2)::t (s+3)::t (s+4)::t (s+5)::t (s+6)::a):=(Lc (Lc (Lc (Lc (Lc (Lc (Lc h)))))))
abbrev Ji (m:List Ab):List Ab:=.k::.k::.k::.k::.k::.k::.k::.k::m
abbrev gj (s:Nat) (m:List Ab):List Ab:=.o s::.o (s+1)::.o (s+2)::.o (s+3)::.o (s+4)::.o (s+5)::.o (s+6)::.o (s+7)::m
theorem vg {m:List Ab}{a0 pa a2 a3 a4 a5 dc Gc:Value}{l a:List Value}(h:Ke m l a):Ke (Ji m) (a0::pa::a2::a3::a4::a5::dc::Gc::l) (a0::pa::a2::a3::a4::a5::dc::Gc::a):=(.k (.k (.k (.k (.k (.k (.k (.k h))))))))
theorem Sg {m:List Ab}{s:Nat}{a0 pa a2 a3 a4 a5 dc Gc b V c Ra yf jg Yf Jf:Value}{l a:List Value}(h:Ke m l a):Ke (gj s m) (a0::pa::a2::a3::a4::a5::dc::Gc::l) (b::V::c::Ra::yf::jg::Yf::Jf::a):=(.o (.o (.o (.o (.o (.o (.o (.o h))))))))
theorem Wi {t:Nat→Value}{m:List Ab}{a0 pa a2 a3 a4 a5 dc Gc:Value}{l a:List Value}(h:bf t m l a):bf t (Ji m) (a0::pa::a2::a3::a4::a5::dc::Gc::l) (a0::pa::a2::a3::a4::a5::dc::Gc::a):=(mk (mk (mk (mk (mk (mk (mk (mk h))))))))
theorem uj {t:Nat→Value}{m:List Ab}{s:Nat}{a0 pa a2 a3 a4 a5 dc Gc:Value}{l a:List Value}(h:bf t m l a):bf t (gj s m) (a0::pa::a2::a3::a4::a5::dc::Gc::l) (t s::t (s+1)::t (s+2)::t (s+3)::t (s+4)::t (s+5)::t (s+6)::t (s+7)::a):=(Lc (Lc (Lc (Lc (Lc (Lc (Lc (Lc h))))))))
abbrev xi (m:List Ab):List Ab:=.k::.k::.k::.k::.k::.k::.k::.k::.k::m
abbrev Fk (s:Nat) (m:List Ab):List Ab:=.o s::.o (s+1)::.o (s+2)::.o (s+3)::.o (s+4)::.o (s+5)::.o (s+6)::.o (s+7)::.o (s+8)::m
theorem Tf {m:List Ab}{a0 pa a2 a3 a4 a5 dc Gc mb:Value}{l a:List Value}(h:Ke m l a):Ke (xi m) (a0::pa::a2::a3::a4::a5::dc::Gc::mb::l) (a0::pa::a2::a3::a4::a5::dc::Gc::mb::a):=(.k (.k (.k (.k (.k (.k (.k (.k (.k h)))))))))
theorem Xi {m:List Ab}{s:Nat}{a0 pa a2 a3 a4 a5 dc Gc mb b V c Ra yf jg Yf Jf zf:Value}{l a:List Value}(h:Ke m l a):Ke (Fk s m) (a0::pa::a2::a3::a4::a5::dc::Gc::mb::l) (b::V::c::Ra::yf::jg::Yf::Jf::zf::a):=(.o (.o (.o (.o (.o (.o (.o (.o (.o h)))))))))
theorem Si {t:Nat→Value}{m:List Ab}{a0 pa a2 a3 a4 a5 dc Gc mb:Value}{l a:List Value}(h:bf t m l a):bf t (xi m) (a0::pa::a2::a3::a4::a5::dc::Gc::mb::l) (a0::pa::a2::a3::a4::a5::dc::Gc::mb::a):=(mk (mk (mk (mk (mk (mk (mk (mk (mk h)))))))))
theorem Bl {t:Nat→Value}{m:List Ab}{s:Nat}{a0 pa a2 a3 a4 a5 dc Gc mb:Value}{l a:List Value}(h:bf t m l a):bf t (Fk s m) (a0::pa::a2::a3::a4::a5::dc::Gc::mb::l) (t s::t (s+1)::t (s+2)::t (s+3)::t (s+4)::t (s+5)::t (s+6)::t (s+7)::t (s+8)::a):=(Lc (Lc (Lc (Lc (Lc (Lc (Lc (Lc (Lc h)))))))))
abbrev ye (m:List Ab):List Ab:=.k::.k::.k::.k::.k::.k::.k::.k::.k::.k::m
abbrev zd (s:Nat) (m:List Ab):List Ab:=.o s::.o (s+1)::.o (s+2)::.o (s+3)::.o (s+4)::.o (s+5)::.o (s+6)::.o (s+7)::.o (s+8)::.o (s+9)::m
theorem oc {m:List Ab}{a0 pa a2 a3 a4 a5 dc Gc mb a9:Value}{l a:List Value}(h:Ke m l a):Ke (ye m) (a0::pa::a2::a3::a4::a5::dc::Gc::mb::a9::l) (a0::pa::a2::a3::a4::a5::dc::Gc::mb::a9::a):=(.k (.k (.k (.k (.k (.k (.k (.k (.k (.k h))))))))))
theorem ob {m:List Ab}{s:Nat}{a0 pa a2 a3 a4 a5 dc Gc mb a9 b V c Ra yf jg Yf Jf zf Rc:Value}{l a:List Value}(h:Ke m l a):Ke (zd s m) (a0::pa::a2::a3::a4::a5::dc::Gc::mb::a9::l) (b::V::c::Ra::yf::jg::Yf::Jf::zf::Rc::a):=(.o (.o (.o (.o (.o (.o (.o (.o (.o (.o h))))))))))
theorem Fe {t:Nat→Value}{m:List Ab}{a0 pa a2 a3 a4 a5 dc Gc mb a9:Value}{l a:List Value}(h:bf t m l a):bf t (ye m) (a0::pa::a2::a3::a4::a5::dc::Gc::mb::a9::l) (a0::pa::a2::a3::a4::a5::dc::Gc::mb::a9::a):=(mk (mk (mk (mk (mk (mk (mk (mk (mk (mk h))))))))))
theorem Dd {t:Nat→Value}{m:List Ab}{s:Nat}{a0 pa a2 a3 a4 a5 dc Gc mb a9:Value}{l a:List Value}(h:bf t m l a):bf t (zd s m) (a0::pa::a2::a3::a4::a5::dc::Gc::mb::a9::l) (t s::t (s+1)::t (s+2)::t (s+3)::t (s+4)::t (s+5)::t (s+6)::t (s+7)::t (s+8)::t (s+9)::a):=(Lc (Lc (Lc (Lc (Lc (Lc (Lc (Lc (Lc (Lc h))))))))))
abbrev yd (m:List Ab):List Ab:=.k::.k::.k::.k::.k::.k::.k::.k::.k::.k::.k::.k::.k::.k::.k::.k::.k::.k::.k::.k::m
abbrev qf (s:Nat) (m:List Ab):List Ab:=.o s::.o (s+1)::.o (s+2)::.o (s+3)::.o (s+4)::.o (s+5)::.o (s+6)::.o (s+7)::.o (s+8)::.o (s+9)::.o (s+10)::.o (s+11)::.o (s+12)::.o (s+13)::.o (s+14)::.o (s+15)::.o (s+16)::.o (s+17)::.o (s+18)::.o (s+19)::m
theorem bb {m:List Ab}{a0 pa a2 a3 a4 a5 dc Gc mb a9 de jc a12 a sc re b od c Vd:Value}{l d:List Value}(h:Ke m l d):Ke (yd m) (a0::pa::a2::a3::a4::a5::dc::Gc::mb::a9::de::jc::a12::a::sc::re::b::od::c::Vd::l) (a0::pa::a2::a3::a4::a5::dc::Gc::mb::a9::de::jc::a12::a::sc::re::b::od::c::Vd::d):=(.k (.k (.k (.k (.k (.k (.k (.k (.k (.k (.k (.k (.k (.k (.k (.k (.k (.k (.k (.k h))))))))))))))))))))
theorem wb {m:List Ab}{s:Nat}{a0 pa a2 a3 a4 a5 dc Gc mb a9 de jc a12 b sc re c od d Vd e V f Ra yf jg Yf Jf zf Rc ri g De bh i j k Hh rh Oe:Value}{l a:List Value}(h:Ke m l a):Ke (qf s m) (a0::pa::a2::a3::a4::a5::dc::Gc::mb::a9::de::jc::a12::b::sc::re::c::od::d::Vd::l) (e::V::f::Ra::yf::jg::Yf::Jf::zf::Rc::ri::g::De::bh::i::j::k::Hh::rh::Oe::a):=(.o (.o (.o (.o (.o (.o (.o (.o (.o (.o (.o (.o (.o (.o (.o (.o (.o (.o (.o (.o h))))))))))))))))))))
theorem Ad {t:Nat→Value}{m:List Ab}{a0 pa a2 a3 a4 a5 dc Gc mb a9 de jc a12 a sc re b od c Vd:Value}{l d:List Value}(h:bf t m l d):bf t (yd m) (a0::pa::a2::a3::a4::a5::dc::Gc::mb::a9::de::jc::a12::a::sc::re::b::od::c::Vd::l) (a0::pa::a2::a3::a4::a5::dc::Gc::mb::a9::de::jc::a12::a::sc::re::b::od::c::Vd::d):=(mk (mk (mk (mk (mk (mk (mk (mk (mk (mk (mk (mk (mk (mk (mk (mk (mk (mk (mk (mk h))))))))))))))))))))
theorem vf {t:Nat→Value}{m:List Ab}{s:Nat}{a0 pa a2 a3 a4 a5 dc Gc mb a9 de jc a12 b sc re c od d Vd:Value}{l a:List Value}(h:bf t m l a):bf t (qf s m) (a0::pa::a2::a3::a4::a5::dc::Gc::mb::a9::de::jc::a12::b::sc::re::c::od::d::Vd::l) (t s::t (s+1)::t (s+2)::t (s+3)::t (s+4)::t (s+5)::t (s+6)::t (s+7)::t (s+8)::t (s+9)::t (s+10)::t (s+11)::t (s+12)::t (s+13)::t (s+14)::t (s+15)::t (s+16)::t (s+17)::t (s+18)::t (s+19)::a):=(Lc (Lc (Lc (Lc (Lc (Lc (Lc (Lc (Lc (Lc (Lc (Lc (Lc (Lc (Lc (Lc (Lc (Lc (Lc (Lc h))))))))))))))))))))
abbrev Ie (m:List Ab):List Ab:=.k::.k::.k::.k::.k::.k::.k::.k::.k::.k::.k::.k::.k::.k::.k::.k::.k::.k::.k::.k::.k::.k::.k::.k::.k::.k::.k::.k::.k::.k::.k::.k::.k::.k::.k::.k::.k::.k::.k::.k::.k::.k::.k::.k::.k::.k::.k::.k::.k::.k::m
abbrev kj (s:Nat) (m:List Ab):List Ab:=.o s::.o (s+1)::.o (s+2)::.o (s+3)::.o (s+4)::.o (s+5)::.o (s+6)::.o (s+7)::.o (s+8)::.o (s+9)::.o (s+10)::.o (s+11)::.o (s+12)::.o (s+13)::.o (s+14)::.o (s+15)::.o (s+16)::.o (s+17)::.o (s+18)::.o (s+19)::.o (s+20)::.o (s+21)::.o (s+22)::.o (s+23)::.o (s+24)::.o (s+25)::.o (s+26)::.o (s+27)::.o (s+28)::.o (s+29)::.o (s+30)::.o (s+31)::.o (s+32)::.o (s+33)::.o (s+34)::.o (s+35)::.o (s+36)::.o (s+37)::.o (s+38)::.o (s+39)::.o (s+40)::.o (s+41)::.o (s+42)::.o (s+43)::.o (s+44)::.o (s+45)::.o (s+46)::.o (s+47)::.o (s+48)::.o (s+49)::m
theorem jb {m:List Ab}{a0 pa a2 a3 a4 a5 dc Gc mb a9 de jc a12 a sc re b od c Vd a20 a21 a22 a23 a24 a25 a26 oe a28 d Je a31 e f g i Ue a37 j n a40 o p q r s a46 t u a49:Value}{l v:List Value}(h:Ke m l v):Ke (Ie m) (a0::pa::a2::a3::a4::a5::dc::Gc::mb::a9::de::jc::a12::a::sc::re::b::od::c::Vd::a20::a21::a22::a23::a24::a25::a26::oe::a28::d::Je::a31::e::f::g::i::Ue::a37::j::n::a40::o::p::q::r::s::a46::t::u::a49::l) (a0::pa::a2::a3::a4::a5::dc::Gc::mb::a9::de::jc::a12::a::sc::re::b::od::c::Vd::a20::a21::a22::a23::a24::a25::a26::oe::a28::d::Je::a31::e::f::g::i::Ue::a37::j::n::a40::o::p::q::r::s::a46::t::u::a49::v):=(.k (.k (.k (.k (.k (.k (.k (.k (.k (.k (.k (.k (.k (.k (.k (.k (.k (.k (.k (.k (.k (.k (.k (.k (.k (.k (.k (.k (.k (.k (.k (.k (.k (.k (.k (.k (.k (.k (.k (.k (.k (.k (.k (.k (.k (.k (.k (.k (.k (.k h))))))))))))))))))))))))))))))))))))))))))))))))))
theorem ad {m:List Ab}{s:Nat}{a0 pa a2 a3 a4 a5 dc Gc mb a9 de jc a12 b sc re c od d Vd a20 a21 a22 a23 a24 a25 a26 oe a28 e Je a31 f g i j Ue a37 k n a40 p q r t u a46 v w a49 x V y Ra yf jg Yf Jf zf Rc ri z De bh A B C Hh rh Oe Cf D E F G df H K M N Tj O P ai Q R S T U W Tg X Y Z gc hc lc rc fd id:Value}{l a:List Value}(h:Ke m l a):Ke (kj s m) (a0::pa::a2::a3::a4::a5::dc::Gc::mb::a9::de::jc::a12::b::sc::re::c::od::d::Vd::a20::a21::a22::a23::a24::a25::a26::oe::a28::e::Je::a31::f::g::i::j::Ue::a37::k::n::a40::p::q::r::t::u::a46::v::w::a49::l) (x::V::y::Ra::yf::jg::Yf::Jf::zf::Rc::ri::z::De::bh::A::B::C::Hh::rh::Oe::Cf::D::E::F::G::df::H::K::M::N::Tj::O::P::ai::Q::R::S::T::U::W::Tg::X::Y::Z::gc::hc::lc::rc::fd::id::a):=(.o (.o (.o (.o (.o (.o (.o (.o (.o (.o (.o (.o (.o (.o (.o (.o (.o (.o (.o (.o (.o (.o (.o (.o (.o (.o (.o (.o (.o (.o (.o (.o (.o (.o (.o (.o (.o (.o (.o (.o (.o (.o (.o (.o (.o (.o (.o (.o (.o (.o h))))))))))))))))))))))))))))))))))))))))))))))))))
theorem Te {t:Nat→Value}{m:List Ab}{a0 pa a2 a3 a4 a5 dc Gc mb a9 de jc a12 a sc re b od c Vd a20 a21 a22 a23 a24 a25 a26 oe a28 d Je a31 e f g i Ue a37 j k a40 n o p q r a46 s u a49:Value}{l v:List Value}(h:bf t m l v):bf t (Ie m) (a0::pa::a2::a3::a4::a5::dc::Gc::mb::a9::de::jc::a12::a::sc::re::b::od::c::Vd::a20::a21::a22::a23::a24::a25::a26::oe::a28::d::Je::a31::e::f::g::i::Ue::a37::j::k::a40::n::o::p::q::r::a46::s::u::a49::l) (a0::pa::a2::a3::a4::a5::dc::Gc::mb::a9::de::jc::a12::a::sc::re::b::od::c::Vd::a20::a21::a22::a23::a24::a25::a26::oe::a28::d::Je::a31::e::f::g::i::Ue::a37::j::k::a40::n::o::p::q::r::a46::s::u::a49::v):=(mk (mk (mk (mk (mk (mk (mk (mk (mk (mk (mk (mk (mk (mk (mk (mk (mk (mk (mk (mk (mk (mk (mk (mk (mk (mk (mk (mk (mk (mk (mk (mk (mk (mk (mk (mk (mk (mk (mk (mk (mk (mk (mk (mk (mk (mk (mk (mk (mk (mk h))))))))))))))))))))))))))))))))))))))))))))))))))
theorem Gj {t:Nat→Value}{m:List Ab}{s:Nat}{a0 pa a2 a3 a4 a5 dc Gc mb a9 de jc a12 b sc re c od d Vd a20 a21 a22 a23 a24 a25 a26 oe a28 e Je a31 f g i j Ue a37 k n a40 o p q r u a46 v w a49:Value}{l a:List Value}(h:bf t m l a):bf t (kj s m) (a0::pa::a2::a3::a4::a5::dc::Gc::mb::a9::de::jc::a12::b::sc::re::c::od::d::Vd::a20::a21::a22::a23::a24::a25::a26::oe::a28::e::Je::a31::f::g::i::j::Ue::a37::k::n::a40::o::p::q::r::u::a46::v::w::a49::l) (t s::t (s+1)::t (s+2)::t (s+3)::t (s+4)::t (s+5)::t (s+6)::t (s+7)::t (s+8)::t (s+9)::t (s+10)::t (s+11)::t (s+12)::t (s+13)::t (s+14)::t (s+15)::t (s+16)::t (s+17)::t (s+18)::t (s+19)::t (s+20)::t (s+21)::t (s+22)::t (s+23)::t (s+24)::t (s+25)::t (s+26)::t (s+27)::t (s+28)::t (s+29)::t (s+30)::t (s+31)::t (s+32)::t (s+33)::t (s+34)::t (s+35)::t (s+36)::t (s+37)::t (s+38)::t (s+39)::t (s+40)::t (s+41)::t (s+42)::t (s+43)::t (s+44)::t (s+45)::t (s+46)::t (s+47)::t (s+48)::t (s+49)::a):=(Lc (Lc (Lc (Lc (Lc (Lc (Lc (Lc (Lc (Lc (Lc (Lc (Lc (Lc (Lc (Lc (Lc (Lc (Lc (Lc (Lc (Lc (Lc (Lc (Lc (Lc (Lc (Lc (Lc (Lc (Lc (Lc (Lc (Lc (Lc (Lc (Lc (Lc (Lc (Lc (Lc (Lc (Lc (Lc (Lc (Lc (Lc (Lc (Lc (Lc h))))))))))))))))))))))))))))))))))))))))))))))))))
theorem Ga {m:List Ab}{v a:Value}{l b:List Value}(h:Ke m l b):Ke (.i v::m) (a::l) (v::b):=.i h
theorem va {l:List Value}:Ke [] l l:=.z
end Go.vc
namespace Go.vc
open Go.RowKit
section
variable {P:Program}{Q:Exit→Act→World→Prop}{ops:Array Oper}{fr za:List Value}{ds:List Deferred}{w:World}
theorem Yv (ops:Array Oper) (fr:List Value) (ds:List Deferred) (j:Nat):yielded ops (F fr ds).tmps j=match (ops[j]?).bind (·.dst) with | some s=>(match (F fr ds).eval (.tmp s) with | .bool b=>some b | _=>none) | none=>none:=by
 unfold yielded;cases h:(ops[j]?).bind (·.dst) with
 | none=>simp
 | some s =>
  simp only [Option.bind_some,F,Act.eval];cases a:(⟨fr⟩:Array Value)[s]? with
  | none =>
   have:(⟨fr⟩:Array Value).getD s undef=undef:=by simp [Array.getD_eq_getD_getElem?,a]
   first
    | (simp [a,undef]; done)
    | (rw [this]; simp [undef])
  | some v =>
   have:(⟨fr⟩:Array Value).getD s undef=v:=by simp [Array.getD_eq_getD_getElem?,a]
   first
    | (simp [a]; done)
    | (rw [this]; cases v <;> rfl)
theorem wanted_put {o p:Oper}{fr:List Value}{ds ds':List Deferred}{g:List Value→List Value}(g3:∀ (y:Operand),(∀ e,p.dst=some e→Ko y≠some e)→(F (g fr) ds).eval y=(F fr ds).eval y) (c:∀ e,p.dst=some e→(reads ops o).contains e=false) :
  Region.wanted o (yielded ops (F (g fr) ds').tmps)=Region.wanted o (yielded ops (F fr ds').tmps):=by
 have Sa:(F (g fr) ds').tmps=(F (g fr) ds).tmps:=rfl;have ra:(F fr ds').tmps=(F fr ds).tmps:=rfl;rw [Sa,ra];unfold Region.wanted;cases d:o.guard with
 | none=>rfl
 | some f =>
  obtain ⟨j,b⟩:=f;simp only;have:yielded ops (F (g fr) ds).tmps j=yielded ops (F fr ds).tmps j:=by
   rw [Yv,Yv];cases h:(ops[j]?).bind (·.dst) with
   | none=>rfl
   | some s =>
    simp only;rw [g3 (.tmp s) fun e he a=>by
     simp [Ko] at a;subst a;have:=c s he;unfold reads at this;rw [d] at this;simp [h] at this]
  first
   | rw [this]
   | simp [this]
theorem uv (s:xh Q){rd:Bool}{i d:Nat}{o:Oper}{v:Value}(A:ops[i]?=some o) (tb:o.dst=some d){wt:Bool}(B:wt=false→v=undef){w0:World} :
  ∀ (a b:List Nat) (fr:List Value) (ds:List Deferred) (w:World),
   (∀ j ∈ a,match ops[j]? with
    | some p=>Bj p.op=true∧(reads ops p).contains d=false∧p.dst≠some d∧(∀ e,p.dst=some e→(reads ops o).contains e=false)∧(rd=true→quiet p.op=true)
    | none=>True) →
   (rd=true→w=w0)→Bj o.op=true→Region.wanted o (yielded ops (F fr ds).tmps)=wt →
   (wt=true→∀ ds w,(rd=true→w=w0)→(execOp (F fr ds).eval o).run P w=.ok (.value v) w) →
   wpOps P ops Q (a++b) (F (fr.set d v) ds) w→wpOps P ops Q (a++i::b) (F fr ds) w
 | [],b,fr,ds,w,_,hw,t,c,u,h=>by
  simp only [List.nil_append] at h ⊢;simp only [wpOps,A];cases wt with
  | true =>
   rw [if_pos c];left;unfold Oper.wp;rw [u rfl ds w hw,Oper.upon_value,tb];rw [show (F fr ds).put (some d) v=F (fr.set d v) ds from ha rfl ds];exact h
  | false =>
   rw [if_neg (by rw [c];simp),tb,← B rfl];rw [show (F fr ds).put (some d) v=F (fr.set d v) ds from ha rfl ds];exact h
 | j::a,b,fr,ds,w,N,hw,t,c,u,h=>by
  have C:=N j (by simp);have O:∀ k ∈ a,_:=fun k l=>N k (by simp [l]);simp only [List.cons_append,wpOps] at h ⊢;cases R:ops[j]? with
  | none =>
   rw [R] at h;simp only at h ⊢;exact uv s A tb B a b fr ds w O hw t c u h
  | some p =>
   rw [R] at h C;simp only at h C ⊢;obtain ⟨S,D,W,T,E⟩:=C;rw [Fw (fr:=fr) (v:=v) (ds:=ds) (ds':=ds) D] at h;have key:∀ (x:Value) (w':World) (ds':List Deferred),(rd=true→w'=w0)→wpOps P ops Q (a++b) ((F (fr.set d v) ds').put p.dst x) w'→wpOps P ops Q (a++i::b) ((F fr ds').put p.dst x) w':=by
    intro x w' ds' m l;obtain ⟨g,g1,g2,g3⟩:=put_eq fr ds' p.dst x;have X:=wanted_put (ops:=ops) (o:=o) (p:=p) (ds':=ds') (fun y G=>g3 fr y ds' ds' G) T;rw [g1] at l ⊢;rw [g2 _ _ _ W] at l;refine uv s A tb B a b (g fr) ds' w' O m t (X.trans c) (fun Y n Z gc=>?_) l;rw [show execOp (F (g fr) n).eval o=execOp (F fr n).eval o from execOp_congr o t fun y G=>g3 fr y n n fun e he hc=>by
     exact qu (T e he) y G hc]
    exact u Y n Z gc
   by_cases U:Region.wanted p (yielded ops (F fr ds).tmps)=true
   ·rw [if_pos U] at h ⊢;rcases h with h | h
    ·left;unfold Oper.wp at h ⊢;rw [Lp (ds':=ds) S D] at h;cases q:(execOp (F fr ds).eval p).run P w with
     | halt e w' =>
      rw [q] at h;cases e<;>first | exact h | exact s _ (F (fr.set d v) ds) _ w' rfl h
     | ok r w' =>
      rw [q] at h;have m:rd=true→w'=w0:=fun e=>(Gp (E e) q).1.trans (hw e);cases r with
      | value x=>exact key x w' ds m h
      | skip=>exact key undef w' ds m h
      | defer lc=>exact key undef w' (lc::ds) m h
      | enter f args =>
       have H:rd=true→False:=fun e=>by obtain ⟨_,x,K⟩:=Gp (E e) q;cases K
       rw [Oper.upon_enter] at h ⊢;refine Calls.mono h fun e z he=>?_;cases e with
       | returned x=>exact key x z ds (fun e=>(H e).elim) he
       | panicked rc=>exact s rc (F (fr.set d v) ds) _ z rfl he
       | outgrown=>exact he
      | row r args =>
       have H:rd=true→False:=fun e=>by obtain ⟨_,x,K⟩:=Gp (E e) q;cases K
       rw [Oper.upon_row] at h ⊢;exact Rows.mono h fun x z he=>key x z ds (fun e=>(H e).elim) he
      | _=>exact h
    ·right;refine ⟨?_,h.2⟩;have M:=h.1;unfold Oper.asks at M ⊢;rw [Lp (ds':=ds) S D] at M;exact M
   ·rw [if_neg U] at h ⊢;exact key undef w ds hw h
def iq (ops:Array Oper) (rd:Bool) (R:List Nat) (i:Nat):Bool :=
 match ops[i]? with
 | some o=>match o.dst with
  | some d=>Bj o.op && R.all fun j=>j == i || (Xj ops j).contains i || (match ops[j]? with
    | some p=>Bj p.op && !(reads ops p).contains d && p.dst != some d && (match p.dst with | some e=>!(reads ops o).contains e | none=>true) && (!rd || quiet p.op)
    | none=>true)
  | _=>false
 | none=>false
theorem wA {R Rd:List Nat}{i:Nat}{rd wt:Bool}{dst:Tmp}{op:Op}{ty:TypeId}{pos:String}{after:Array Edge}{k:Option (Nat×Bool)}{v:Value}(q:xh Q) (l:(decide R.Nodup && enabled ops R i && iq ops rd R i)=true) (r:R.erase i=Rd) (m:ops[i]?=some ⟨some dst,op,ty,pos,after,k⟩)
  (s:Region.wanted ⟨some dst,op,ty,pos,after,k⟩ (yielded ops (F fr ds).tmps)=wt) (t:wt=false→v=undef)
  (u:wt=true→∀ ds w',(rd=true→w'=w)→(execOp (F fr ds).eval ⟨some dst,op,ty,pos,after,k⟩).run P w'=.ok (.value v) w') (f:wc fr dst v za) (h:uf P ops Q Rd za ds w):uf P ops Q R fr ds w:=⟨fun K x=>by
 simp only [Bool.and_eq_true,decide_eq_true_eq] at l;obtain ⟨⟨y,n⟩,g⟩:=l;obtain ⟨z,A,rfl,B,C⟩:=x.split y (cl n) n;unfold iq at g;simp only [m,Bool.and_eq_true,List.all_eq_true,Bool.or_eq_true,beq_iff_eq,List.contains_iff_mem] at g;unfold wc at f;subst f;subst r;refine uv q m rfl t (rd:=rd) (w0:=w) (v:=v) z A fr ds w (fun j D=>?_) (fun _=>rfl) g.1 s u (h.out _ B);obtain ⟨a,b,c⟩:=C j D;have:=g.2 j a;rcases this with (h | h) | h
 ·exact absurd h b
 ·exact absurd h c
 ·cases f:ops[j]? with
  | none=>trivial
  | some p =>
   rw [f] at h;simp only [Bool.and_eq_true,Bool.not_eq_true',bne_iff_ne,ne_eq,Bool.or_eq_true] at h;obtain ⟨⟨⟨⟨E,G⟩,H⟩,o⟩,d⟩:=h;refine ⟨E,G,H,fun e he=>?_,fun e=>?_⟩
   ·rw [he] at o;simpa using o
   ·rcases d with d | d
    ·rw [e] at d;cases d
    ·exact d⟩
theorem ru {o:Oper}{j d:Nat}{b b':Bool}(a:o.guard=some (j,b)) (c:(ops[j]?).bind (·.dst)=some d) (e:Bc fr d (.bool b')):Region.wanted o (yielded ops (F fr ds).tmps)=(b' == b):=by
 unfold Region.wanted;rw [a];simp only;have:yielded ops (F fr ds).tmps j=some b':=by
  rw [Yv,c];simp only;rw [aa e ds]
 rw [this];cases b<;>cases b'<;>rfl
theorem aH {R Rd:List Nat}{i j d:Nat}{b:Bool}{dst:Tmp}{op:Op}{ty:TypeId}{pos:String}{after:Array Edge}{v:Value}(a:xh Q) (c:(decide R.Nodup && enabled ops R i && iq ops false R i)=true) (e:R.erase i=Rd) (f:ops[i]?=some ⟨some dst,op,ty,pos,after,some (j,b)⟩) (g:(ops[j]?).bind (·.dst)=some d) (k:Bc fr d (.bool b))
  (l:ef P ⟨some dst,op,ty,pos,after,some (j,b)⟩ fr v) (m:wc fr dst v za) (h:uf P ops Q Rd za ds w):uf P ops Q R fr ds w :=
 wA (wt:=true) a c e f ((ru rfl g k).trans (by cases b<;>rfl)) (fun h=>by cases h) (fun _ ds w' _=>l.out ds w') m h
theorem bH {R Rd:List Nat}{i j d:Nat}{b b':Bool}{dst:Tmp}{op:Op}{ty:TypeId}{pos:String}{after:Array Edge}(a:xh Q) (c:(decide R.Nodup && enabled ops R i && iq ops false R i)=true) (e:R.erase i=Rd) (f:ops[i]?=some ⟨some dst,op,ty,pos,after,some (j,b)⟩) (g:(ops[j]?).bind (·.dst)=some d) (k:Bc fr d (.bool b')) (l:(b' == b)=false)
  (m:wc fr dst undef za) (h:uf P ops Q Rd za ds w):uf P ops Q R fr ds w :=
 wA (wt:=false) a c e f ((ru rfl g k).trans l) (fun _=>rfl) (fun h=>by cases h) m h
theorem kb {o:Oper}(a:o.guard=none):Region.wanted o (yielded ops (F fr ds).tmps)=true:=by simp [Region.wanted,a]
theorem Np {o:Oper}{j d:Nat}{b:Bool}(a:o.guard=some (j,b)) (c:(ops[j]?).bind (·.dst)=some d) (e:Bc fr d (.bool b)):Region.wanted o (yielded ops (F fr ds).tmps)=true :=
 (ru a c e).trans (by cases b<;>rfl)
theorem Mg {R:List Nat}{i j:Nat}{d f:List Nat}{a b:Oper}(g:Po ops R=[i,j]) (h:R.erase i=d) (l:R.erase j=f) (gb:ops[i]?=some a) (m:ops[j]?=some b) (n:Region.wanted a (yielded ops (F fr ds).tmps)=true) (o:Region.wanted b (yielded ops (F fr ds).tmps)=true)
  (p:Pd P a fr ds w (uf P ops Q d) Q) (q:Pd P b fr ds w (uf P ops Q f) Q):uf P ops Q R fr ds w :=
 ky (by intro e;subst e;cases g) fun k c=>by
  rw [g] at c;simp at c;rcases c with rfl | rfl
  ·exact ⟨_,gb,by rw [if_pos n,h];exact p⟩
  ·exact ⟨_,m,by rw [if_pos o,l];exact q⟩
theorem Mm {R:List Nat}{i j k:Nat}{d f g:List Nat}{a b ok:Oper}(h:Po ops R=[i,j,k]) (l:R.erase i=d) (m:R.erase j=f) (n:R.erase k=g) (gb:ops[i]?=some a) (o:ops[j]?=some b) (p:ops[k]?=some ok) (r:Region.wanted a (yielded ops (F fr ds).tmps)=true) (s:Region.wanted b (yielded ops (F fr ds).tmps)=true) (t:Region.wanted ok (yielded ops (F fr ds).tmps)=true)
  (u:Pd P a fr ds w (uf P ops Q d) Q) (v:Pd P b fr ds w (uf P ops Q f) Q) (x:Pd P ok fr ds w (uf P ops Q g) Q):uf P ops Q R fr ds w :=
 ky (by intro e;subst e;cases h) fun q c=>by
  rw [h] at c;simp at c;rcases c with rfl | rfl | rfl
  ·exact ⟨_,gb,by rw [if_pos r,l];exact u⟩
  ·exact ⟨_,o,by rw [if_pos s,m];exact v⟩
  ·exact ⟨_,p,by rw [if_pos t,n];exact x⟩
theorem zC {R:List Nat}{Yg Zg:List Value}{d:Nat}{b:Bool}(a:Bc fr d (.bool b)) (c:wc fr d (.bool true) Yg) (e:wc fr d (.bool false) Zg)
  (f:b=true→uf P ops Q R Yg ds w) (g:¬ b=true→uf P ops Q R Zg ds w):uf P ops Q R fr ds w:=by
 cases b with
 | true=>have:=f rfl; rw [wc.same a c] at this; exact this
 | false=>have:=g (by simp); rw [wc.same a e] at this; exact this
theorem Un {R:List Nat}{Yg Zg:List Value}{d:Nat}{p:Prop}[Decidable p] (a:Bc fr d (.bool (decide p))) (b:wc fr d (.bool true) Yg) (c:wc fr d (.bool false) Zg)
  (e:p→uf P ops Q R Yg ds w) (f:¬ p→uf P ops Q R Zg ds w):uf P ops Q R fr ds w :=
 zC a b c (fun h=>e (of_decide_eq_true h)) (fun h=>f fun g=>h (decide_eq_true g))
end
end Go.vc
namespace Go.vc
open Go.RowKit
section
variable {P:Program}{Q:Exit→Act→World→Prop}{ops:Array Oper}{fr za:List Value}{ds:List Deferred}{w:World}
def waits (ops:Array Oper) (R S:List Nat) (i:Nat):Bool:=S.all fun j=>j == i || S.any fun k=>(Xj ops j).contains k && R.contains k
theorem ik.later {R d:List Nat}(h:ik ops R d) (m:R.Nodup){i:Nat}{S:List Nat}(n:∀ j ∈ S,j=i∨∃ k ∈ S,k ∈ Xj ops j∧k ∈ R):∀ a c,d=a++i::c→i ∉ a→∀ j ∈ a,j ∉ S:=by
 induction h with
 | z=>intro a c h; simp at h
 | @s R d k o t p =>
  intro a c h gb j b;cases a with
  | nil=>cases b
  | cons e a =>
   simp only [List.cons_append,List.cons.injEq] at h;obtain ⟨rfl,h⟩:=h;have he:k ∉ S:=fun hm=>by
    rcases n k hm with rfl | ⟨q,f,g,l⟩
    ·exact gb (by simp)
    ·exact Qz o g l
   rcases List.mem_cons.1 b with rfl | b
   ·exact he
   ·refine p (m.erase k) (fun j b=>?_) a c h (fun hm=>gb (by simp [hm])) j b;rcases n j b with rfl | ⟨q,f,g,l⟩
    ·exact .inl rfl
    ·exact .inr ⟨q,f,g,(m.mem_erase_iff).2 ⟨fun e=>he (e ▸ f),l⟩⟩
def jq (ops:Array Oper) (S R:List Nat) (i:Nat):Bool :=
 match ops[i]? with
 | some o=>match o.dst with
  | some d=>Bj o.op && R.all fun j=>S.contains j || (match ops[j]? with
    | some p=>Bj p.op && !(reads ops p).contains d && p.dst != some d && (match p.dst with | some e=>!(reads ops o).contains e | none=>true) && quiet p.op
    | none=>true)
  | _=>false
 | none=>false
theorem xA {R Rd:List Nat}{i:Nat}(S:List Nat){wt:Bool}{dst:Tmp}{op:Op}{ty:TypeId}{pos:String}{after:Array Edge}{m:Option (Nat×Bool)}{v:Value}(A:xh Q) (n:(decide R.Nodup && enabled ops R i && waits ops R S i && jq ops S R i)=true) (B:R.erase i=Rd) (o:ops[i]?=some ⟨some dst,op,ty,pos,after,m⟩)
  (C:Region.wanted ⟨some dst,op,ty,pos,after,m⟩ (yielded ops (F fr ds).tmps)=wt) (D:wt=false→v=undef)
  (E:wt=true→∀ ds w',w'=w→(execOp (F fr ds).eval ⟨some dst,op,ty,pos,after,m⟩).run P w'=.ok (.value v) w') (f:wc fr dst v za) (h:uf P ops Q Rd za ds w):uf P ops Q R fr ds w:=⟨fun W q=>by
 simp only [Bool.and_eq_true,decide_eq_true_eq] at n;obtain ⟨⟨⟨r,s⟩,t⟩,g⟩:=n;obtain ⟨u,x,rfl,G,y⟩:=q.split r (cl s) s;have H:=ik.later (S:=S) q r (fun j l=>by
  unfold waits at t;have:=List.all_eq_true.1 t j l;simp only [Bool.or_eq_true,beq_iff_eq,List.any_eq_true,Bool.and_eq_true,List.contains_iff_mem] at this;rcases this with h | ⟨k,k1,K,M⟩
  ·exact .inl h
  ·exact .inr ⟨k,k1,K,M⟩) u x rfl (fun hm=>(y i hm).2.1 rfl)
 unfold jq at g;simp only [o,Bool.and_eq_true,List.all_eq_true,Bool.or_eq_true,List.contains_iff_mem] at g;unfold wc at f;subst f;subst B;refine uv A o rfl D (rd:=true) (w0:=w) (v:=v) u x fr ds w (fun j l=>?_) (fun _=>rfl) g.1 C (fun a b c d=>E a b c (d rfl)) (h.out _ G);obtain ⟨a,b,c⟩:=y j l;have:=g.2 j a;rcases this with h | h
 ·exact absurd h (H j l)
 ·cases f:ops[j]? with
  | none=>trivial
  | some p =>
   rw [f] at h;simp only [Bool.and_eq_true,Bool.not_eq_true',bne_iff_ne,ne_eq] at h;obtain ⟨⟨⟨⟨N,O⟩,T⟩,z⟩,U⟩:=h;refine ⟨N,O,T,fun e he=>?_,fun e=>U⟩;rw [he] at z;simpa using z⟩
theorem cH {R Rd:List Nat}{i:Nat}(S:List Nat){dst:Tmp}{op:Op}{ty:TypeId}{pos:String}{after:Array Edge}{v:Value}(a:xh Q) (b:(decide R.Nodup && enabled ops R i && waits ops R S i && jq ops S R i)=true) (c:R.erase i=Rd) (d:ops[i]?=some ⟨some dst,op,ty,pos,after,none⟩)
  (e:dk P ⟨some dst,op,ty,pos,after,none⟩ fr w v) (f:wc fr dst v za) (h:uf P ops Q Rd za ds w):uf P ops Q R fr ds w :=
 xA S (wt:=true) a b c d (kb rfl) (fun h=>by cases h) (fun _ ds w' hw=>by rw [hw];exact e.out ds) f h
theorem QF {R Rd:List Nat}{i j d:Nat}{b:Bool}(S:List Nat){dst:Tmp}{op:Op}{ty:TypeId}{pos:String}{after:Array Edge}{v:Value}(a:xh Q) (c:(decide R.Nodup && enabled ops R i && waits ops R S i && jq ops S R i)=true) (e:R.erase i=Rd) (f:ops[i]?=some ⟨some dst,op,ty,pos,after,some (j,b)⟩) (g:(ops[j]?).bind (·.dst)=some d) (k:Bc fr d (.bool b))
  (l:dk P ⟨some dst,op,ty,pos,after,some (j,b)⟩ fr w v) (m:wc fr dst v za) (h:uf P ops Q Rd za ds w):uf P ops Q R fr ds w :=
 xA S (wt:=true) a c e f (Np rfl g k) (fun h=>by cases h) (fun _ ds w' hw=>by rw [hw];exact l.out ds) m h
end
end Go.vc
namespace Go.vc
open Go.RowKit
section
variable {P:Program}{Q:Exit→Act→World→Prop}{K:List Value→List Deferred→World→Prop}{fr za:List Value}{ds:List Deferred}{w:World}
variable {dst:Option Tmp}{ty:TypeId}{pos:String}{after:Array Edge}{g:Option (Nat×Bool)}
variable {S Sd:Nat→Prop}{w0:World}{rs rs':List Gb}{A:World→Prop}
variable {T:TypeId}{d:TypeDesc}{Gf:Bool}{Kd:List Value}{n m:Nat}
inductive kq (fr:List Value) (n:Nat):Nat→List (Nat×Operand)→List Value→Prop where
 | z {i:Nat}:kq fr n i [] []
 | s {i:Nat} {x:Operand} {v:Value} {cs rest:List Value} {xs:List (Nat×Operand)} (a:rb fr x v) (b:v.cells=⟨cs⟩) (c:cs.length=n) (t:kq fr n (i+1) xs rest):kq fr n i ((i,x)::xs) (cs++rest)
theorem kq.fill {i:Nat}{xs:List (Nat×Operand)}{cells:List Value}(h:kq fr n i xs cells):∀ a:List Value,a.length=i*n+cells.length →
  Instr.fill (fun i=>some (i*n,n)) ⟨a⟩ (xs.map fun p=>(p.1,(F fr ds).eval p.2))=some ⟨a.take (i*n)++cells⟩:=by
 induction h with
 | z=>intro a b; simp at b; simp [Instr.fill,← b]
 | @s i x v cs rest xs f g c t j =>
  intro a b;simp only [List.length_append] at b;have d:(i+1)*n=i*n+n:=by rw [Nat.add_mul,Nat.one_mul]
  simp only [List.map_cons,Instr.fill,f ds,g];have Sa:¬ (((⟨cs⟩:Array Value).size≠n || i*n+(⟨cs⟩:Array Value).size > (⟨a⟩:Array Value).size)=true):=by simp [c,b]
  rw [if_neg Sa];have k:=Bs cs (i*n) 0 a (by omega);have ra:(⟨cs⟩:Array Value).zipIdx.toList=cs.zipIdx 0:=by simp
  have e:(⟨cs⟩:Array Value).zipIdx.foldl (fun (cs:Array Value) (p:Value×Nat)=>cs.setIfInBounds (i*n+p.2) p.1) ⟨a⟩=⟨a.take (i*n+0)++cs++a.drop (i*n+0+cs.length)⟩:=by
   rw [← Array.foldl_toList,ra];exact k
  first
   | rw [e]
   | (erw [e])
  rw [j _ (by simp [d,c,b];omega)];congr 2;rw [d,c,Nat.add_zero];have:(a.take (i*n)++cs).length=i*n+n:=by simp [c];omega
  rw [← this,List.take_left,List.append_assoc]
theorem lq {e:TypeId}{len:Nat}{xs:List (Nat×Operand)}{cells:List Value}(f:P.underlying T=some (.slice e)) (c:Nc P e Gf Kd n m) (a:(decide (0<n) && decide (n≤1000) && decide (0<len) && decide (len≤1000))=true) (j:kq fr n 0 xs cells) (k:cells.length=len*n) (l:Sep S Sd w0 w rs A)
  (h:∀ b w',w.heap.size≤b→Sep S Sd w0 w' (.ba b e cells::rs) A→Rg fr dst (.slice (some ⟨b,0,none⟩) len len) fun za=>K za ds w'):Pd P (Oper.mk dst (.buildSlice T len ⟨xs⟩) ty pos after g) fr ds w K Q:=by
 obtain ⟨za,tb⟩:=Mh fr dst (.slice (some ⟨w.heap.size,0,none⟩) len len);refine eh (v:=.slice (some ⟨w.heap.size,0,none⟩) len len) (w':=w.alloc (.cells ⟨cells⟩ e)) ?_ tb (h _ _ (Nat.le_refl _) (l.alloc rfl (heap_alloc_new w _)) za tb);obtain ⟨z,o,hc⟩:=c.zero (w:=w);have q:=c.sizeOf (w:=w);simp only [Bool.and_eq_true,decide_eq_true_eq] at a;have hmul:len*n≤1000*1000:=Nat.mul_le_mul a.2 a.1.1.2;have r:¬ (len*n > 2 ^ 24):=by omega
 have s:¬ (len*n=0):=by
  have:=Nat.mul_pos a.1.2 a.1.1.1;omega
 have t:((⟨xs⟩:Array (Nat×Operand)).map fun (i,x)=>(i,(F fr ds).eval x)).toList=xs.map fun p=>(p.1,(F fr ds).eval p.2):=by simp
 have d:=j.fill (ds:=ds) ((Array.range (len*n)).map (z.cells[· % z.cells.size]!)).toList (by simp [k]);simp only [execOp,Instr.buildSlice,Sem.run_bind,run_underlying f,Result.andThen_ok,q,if_neg r,if_neg s,o,Sem.run_pure,t];have u:(⟨((Array.range (len*n)).map (z.cells[· % z.cells.size]!)).toList⟩:Array Value)=(Array.range (len*n)).map (z.cells[· % z.cells.size]!):=rfl;rw [u] at d;simp only [d];simp [newRow]
structure fs (P:Program) (c:Code) (Q:Exit→Act→World→Prop) (n:Nat) (fr:List Value) (ds:List Deferred) (w:World):Prop where
 out:Code.rounds P c Q n (F fr ds) w
theorem Px {c:Code}(n:Nat) (h:fs P c Q n fr ds w):He P (.loop c) Q fr ds w:=⟨wp_loop_rounds n h.out⟩
theorem vl {c:Code}{n:Nat}(h:He P c (Exit.then (fun a w=>∃ fr ds,a=F fr ds∧fs P c Q n fr ds w) Q) fr ds w):fs P c Q (n+1) fr ds w:=⟨by
 rw [rounds_succ];refine wp_mono h.out fun e a w b=>?_;cases e with
 | normal=>obtain ⟨fr,ds,rfl,h⟩:=b; exact h.out
 | exit id=>exact b
 | goto l=>exact b
 | ret=>exact b
 | panic d=>exact b
 | outgrown=>exact b⟩
theorem Vn {c:Code}{n:Nat}(h:fs P c Q n fr ds w):Exit.then (fun a w=>∃ fr ds,a=F fr ds∧fs P c Q n fr ds w) Q .normal (F fr ds) w:=⟨_,_,rfl,h⟩
theorem kB {f:Operand}{xs:List Operand}{tys:Array TypeId}{k:FuncId}{first cap vs:List Value}{R:Value→World→Prop}(b:Ob P k) (c:rb fr f (.func (.func k) ⟨first⟩ ⟨cap⟩)) (d:Ek fr xs vs)
  (hc:Bb P k (first++vs++cap) w R) (h:∀ v w',R v w'→Rg fr dst v fun za=>K za ds w'):Pd P (Oper.mk dst (.call { callee:=.value f,args:=⟨xs⟩,argTypes:=tys }) ty pos after g) fr ds w K Q:=by
 refine Fu (args:=first++vs++cap) ?_ hc h;have i:=c ds;have j:=d ds;have a:=b.out ⟨first++vs++cap⟩ w;have e:(⟨first⟩:Array Value)++(⟨vs⟩:Array Value)++(⟨cap⟩:Array Value)=⟨first++vs++cap⟩:=by
  apply Array.ext';simp
 simp only [List.append_assoc] at a e ⊢;simp [execOp,resolve,i,Deferred.ofValue,invoke,j];first
  | exact a
  | (simpa using a)
end
end Go.vc
namespace Go.jd
open Go.vc Go.RowKit
section
variable {P:Program}{Q:Exit→Act→World→Prop}{K:List Value→List Deferred→World→Prop}{fr za:List Value}{ds:List Deferred}{w:World}
variable {dst:Option Tmp}{ty:TypeId}{pos:String}{after:Array Edge}{g:Option (Nat×Bool)}
variable {w0:World}{rs rs':List Gb}{μ J:M}
variable {T:TypeId}{d:TypeDesc}{Gf:Bool}{Kd:List Value}{n m:Nat}
def okV (R:Value→World→Prop):Ending→World→Prop
 | .returned v,w=>R v w
 | _,_=>False
def oq (P:Program) (fn:Func) (R:Value→World→Prop):Exit→Act→World→Prop
 | .panic _,_,_=>False
 | e,a,w=>bodyPostD P fn (okV R) e a w
theorem zr {f:FuncId}{fn:Func}{c:Code}{args frm:List Value}{R:Value→World→Prop}(d:P.funcs[f]?=some fn) (g:fn.body=some c)
  (i:args++List.replicate (fn.ntmps - args.length) undef=frm) (h:He P c (oq P fn R) frm [] w):Bb P f args w R:=by
 refine ⟨Calls.mono (calls_of_wp_defers (R:=okV R) d g ?_) fun e w he=>by cases e<;>exact he⟩;subst i;have ra:(⟨args⟩:Array Value)++Array.replicate (fn.ntmps - args.length) undef=⟨args++List.replicate (fn.ntmps - args.length) undef⟩:=by
  apply Array.ext';simp
 have h:=wp_mono h.out (Q':=bodyPostD P fn (okV R)) fun e a w b=>by
  cases e<;>first | exact b | exact (False.elim b)
 simpa [F,ra] using h
structure Iu (P:Program) (f:FuncId) (args:List Value) (w:World) (R:Value→World→Prop):Prop where
 out:∀ u,CallsD P f ⟨args⟩ u w fun e a w'=>a=u∧okV R e w'
theorem lB {f:FuncId}{fn:Func}{c:Code}{args frm:List Value}{R:Value→World→Prop}(d:P.funcs[f]?=some fn) (g:fn.body=some c)
  (j:args++List.replicate (fn.ntmps - args.length) undef=frm) (h:He P c (Tn P fn R) frm [] w):Iu P f args w R:=by
 refine ⟨fun u=>callsD_of_wp d g ?_⟩;subst j;have ra:(⟨args⟩:Array Value)++Array.replicate (fn.ntmps - args.length) undef=⟨args++List.replicate (fn.ntmps - args.length) undef⟩:=by
  apply Array.ext';simp
 have h:=wp_mono h.out (Q':=bodyPost P fn (okV R)) fun e a w b=>by
  cases e with
  | normal=>exact b
  | ret=>exact b
  | panic k=>exact b
  | exit i=>exact b
  | goto l=>exact b
  | outgrown=>exact b
 simpa [F,ra] using h
theorem xn {f:Operand}{xs:List Operand}{tys:Array TypeId}{k:FuncId}{cap vs:List Value}(a:rb fr f (.func (.func k) #[] ⟨cap⟩)) (b:Ek fr xs vs)
  (c:tf fr dst undef za) (h:K za (⟨.fn (.func k) ⟨cap⟩,⟨vs⟩⟩::ds) w):Pd P (Oper.mk dst (.defer { callee:=.value f,args:=⟨xs⟩,argTypes:=tys }) ty pos after g) fr ds w K Q:=by
 constructor;intro l d;have e:=a ds;have i:=b ds;have j:(execOp (F fr ds).eval (Oper.mk dst (.defer { callee:=.value f,args:=⟨xs⟩,argTypes:=tys }) ty pos after g)).run P w=.ok (.defer ⟨.fn (.func k) ⟨cap⟩,⟨vs⟩⟩) w:=by
  simp [execOp,resolve,e,Deferred.ofValue,i]
 unfold Oper.wp;rw [j];have:=d _ _ _ h;rw [← c _] at this;simpa [Oper.upon,F,Act.put] using this
theorem Uo {fn:Func}{R a:Value→World→Prop}{k:FuncId}{cap vs:List Value}(b:Ob P k) (hc:Iu P k (vs++cap) w a) (h:∀ v w',a v w'→oq P fn R .ret (F fr ds) w') :
  oq P fn R .ret (F fr (⟨.fn (.func k) ⟨cap⟩,⟨vs⟩⟩::ds)) w:=by
 refine ⟨by simp,.func k,⟨cap⟩,k,⟨vs++cap⟩,rfl,?_,?_⟩
 ·have:=b.out ⟨vs++cap⟩ w;simp [invoke,this]
 ·refine (hc.out .returning).mono fun e d w' he=>?_;obtain ⟨rfl,he⟩:=he;cases e with
  | returned v=>exact h v w' he
  | panicked c=>exact he.elim
  | outgrown=>exact he.elim
theorem Vl {fn:Func}{R:Value→World→Prop}{a:List ResultVar}{vs:List Value}(b:fn.results=⟨a⟩) (c:bc P fr w a vs) (h:R (tq vs) w):oq P fn R .ret (F fr []) w :=
 ⟨_,Pz b c,h⟩
def ab (ms:List (Nat×List MapEntry×Nat)):List Gb:=(ms.map fun m=>.map m.1 m.2.1 m.2.2).reverse
def sd (ms:List (Nat×List MapEntry×Nat)):List Value:=ms.map fun m=>.map (some m.1)
variable {κ β:Type}[DecidableEq κ] [Ab κ] [Kh β]
def Zd (μ:M):List (Nat×List MapEntry×Nat)→List (List (κ×β))→Prop
 | [],a=>a=[]
 | m::ms,a=>∃ x t,a=x::t∧Hd μ m.2.1 m.2.2 x∧Zd μ ms t
theorem Zd.up (l:ga μ J):∀ {ms:List (Nat×List MapEntry×Nat)}{a:List (List (κ×β))},Zd μ ms a→Zd J ms a
 | [],a,h=>by rw [Zd] at h ⊢; exact h
 | m::ms,a,h=>by
  rw [Zd] at h ⊢;obtain ⟨x,t,b,c,d⟩:=h;exact ⟨x,t,b,c.up l,Zd.up l d⟩
theorem Zd.get:∀ {ms:List (Nat×List MapEntry×Nat)}{d:List (List (κ×β))}{i:Nat}{x:List (κ×β)},Zd μ ms d→d[i]?=some x→∃ b es c,ms[i]?=some (b,es,c)∧Hd μ es c x
 | [],d,i,x,h,a=>by rw [Zd] at h; subst h; simp at a
 | m::ms,d,i,x,h,a=>by
  rw [Zd] at h;obtain ⟨y,t,rfl,e,f⟩:=h;cases i with
  | zero=>simp at a; subst a; exact ⟨m.1,m.2.1,m.2.2,rfl,e⟩
  | succ i=>simp at a; simpa using Zd.get f a
theorem Zd.set:∀ {ms:List (Nat×List MapEntry×Nat)}{a:List (List (κ×β))}{i:Nat}{e:Nat×List MapEntry×Nat}{x:List (κ×β)},Zd μ ms a→Hd μ e.2.1 e.2.2 x→Zd μ (ms.set i e) (a.set i x)
 | [],a,i,e,x,h,b=>by rw [Zd] at h; subst h; simp [Zd]
 | m::ms,a,i,e,x,h,b=>by
  rw [Zd] at h;obtain ⟨y,t,rfl,d,c⟩:=h;cases i with
  | zero=>exact ⟨x,t,rfl,b,c⟩
  | succ i=>exact ⟨y,_,rfl,d,Zd.set c b⟩
theorem Zd.push:∀ {ms:List (Nat×List MapEntry×Nat)}{a:List (List (κ×β))}{e:Nat×List MapEntry×Nat}{x:List (κ×β)},Zd μ ms a→Hd μ e.2.1 e.2.2 x→Zd μ (ms++[e]) (a++[x])
 | [],a,e,x,h,b=>by rw [Zd] at h; subst h; exact ⟨x,[],rfl,b,rfl⟩
 | m::ms,a,e,x,h,b=>by
  rw [Zd] at h;obtain ⟨y,t,rfl,c,d⟩:=h;exact ⟨y,_,rfl,c,Zd.push d b⟩
theorem Zd.take:∀ {ms:List (Nat×List MapEntry×Nat)}{a:List (List (κ×β))}(j:Nat),Zd μ ms a→Zd μ (ms.take j) (a.take j)
 | [],a,j,h=>by rw [Zd] at h; subst h; simp [Zd]
 | m::ms,a,j,h=>by
  rw [Zd] at h;obtain ⟨y,t,rfl,b,c⟩:=h;cases j with
  | zero=>simp [Zd]
  | succ j=>exact ⟨y,_,rfl,b,Zd.take j c⟩
theorem VC (ms:List (Nat×List MapEntry×Nat)) (e:Nat×List MapEntry×Nat):ab (ms++[e])=.map e.1 e.2.1 e.2.2::ab ms:=by simp [ab]
theorem jD {ms:List (Nat×List MapEntry×Nat)}{i b c c':Nat}{es a:List MapEntry}(h:ms[i]?=some (b,es,c)):sd (ms.set i (b,a,c'))=sd ms:=by
 unfold sd;refine List.ext_getElem? fun j=>?_;rw [List.getElem?_map,List.getElem?_map,List.getElem?_set];split
 ·rename_i d;subst d;have e:=(List.getElem?_eq_some_iff.1 h).1;rw [if_pos e,h];rfl
 ·rfl
theorem kD {ms:List (Nat×List MapEntry×Nat)}{i b c:Nat}{es:List MapEntry}(h:ms[i]?=some (b,es,c)):Gb.map b es c ∈ ab ms:=by
 unfold ab;rw [List.mem_reverse,List.mem_map];exact ⟨(b,es,c),List.mem_of_getElem? h,rfl⟩
theorem _root_.Go.vc.Sep.iC {pre:List Gb}{ms:List (Nat×List MapEntry×Nat)}{i b c:Nat}{es:List MapEntry}(a:la μ w0 w (pre++(ab ms++rs))) (h:ms[i]?=some (b,es,c)):w.heap[b]?=some (.map ⟨es⟩ c):=
 a.all (.map b es c) (by simp [kD h])
theorem Row.mapElem {v:Value}{ms:List (Nat×List MapEntry×Nat)}{d:List (List (κ×β))}{i:Int}{x:List (κ×β)}(h:Row w v T 1 d.length (sd ms)) (hm:Zd μ ms d) (g:at_ d i=some x) :
  ∃ b o a es c,Qj v 1 i b o∧(∀ w T,Row w v T 1 d.length (sd ms)→bj w b o [.map (some a)])∧ms[i.toNat]?=some (a,es,c)∧Hd μ es c x:=by
 obtain ⟨l,m,n⟩:=Hr g;obtain ⟨a,es,c,f,p⟩:=hm.get n;obtain ⟨b,o,s,rfl,hc⟩:=h.Oo (by omega);refine ⟨b,o+i.toNat,a,es,c,⟨o,_,_,rfl,l,m,by simp⟩,fun t y q j u e=>?_,f,p⟩;obtain ⟨b',z,c',k,r⟩:=q.Oo (by omega);simp at k;obtain ⟨⟨rfl,rfl⟩,rfl⟩:=k;cases j with
 | succ j=>simp at e
 | zero =>
  simp at e;subst e;have:(sd ms)[i.toNat]?=some (.map (some a)):=by unfold sd;rw [List.getElem?_map,f];rfl
  exact r _ _ this
theorem jl {x y z:Operand}{ff aa:TypeId}{v:Value}{pre:List Gb}{ms:List (Nat×List MapEntry×Nat)}{b c i:Nat}{es:List MapEntry}{kk:κ}{q:List (κ×β)}{xx:β}{d:List (List (κ×β))}(n:P.underlying T=some (.map ff aa)) (o:P.underlying ff=some (Ab.Cl (κ:=κ))) (p:rb fr x (.map (some b))) (r:rb fr y (Ab.key kk)) (s:rb fr z v) (t:Kh.mj μ v xx)
  (u:la μ w0 w (pre++(ab ms++rs))) (gb:ms[i]?=some (b,es,c)) (he:Hd μ es c q) (hm:Zd μ ms d)
  (tb:tf fr dst undef za) (h:∀ f w',Zd μ f (d.set i (Ce q kk xx))→sd ms=sd f→d.length=(d.set i (Ce q kk xx)).length→la μ w0 w' (pre++(ab f++rs))→K za ds w'):Pd P (Oper.mk dst (.mapUpdate T x y z) ty pos after g) fr ds w K Q:=by
 have B:=(List.getElem?_eq_some_iff.1 gb).1;have A:(pre++(ab ms++rs))[pre.length+(ms.length - 1 - i)]?=some (.map b es c):=by
  rw [List.getElem?_append_right (by omega),Nat.add_sub_cancel_left,List.getElem?_append_left (by simp [ab];omega)];unfold ab;rw [List.getElem?_reverse (by simp;omega),List.length_map,show ms.length - 1 - (ms.length - 1 - i)=i by omega,List.getElem?_map,gb];rfl
 refine KB n o p r (Ab.ff kk) s u A he.Hf.keys tb fun w' rs' k l=>h _ w' (hm.set (e:=(b,putAt es c (Ab.key kk) v,Zl es c (Ab.key kk))) (he.put kk t)) (jD gb).symm (by simp) ?_;unfold wc at k;subst k;have e:(pre++(ab ms++rs)).set (pre.length+(ms.length - 1 - i)) (.map b (putAt es c (Ab.key kk) v) (Zl es c (Ab.key kk)))=pre++(ab (ms.set i (b,putAt es c (Ab.key kk) v,Zl es c (Ab.key kk)))++rs):=by
  rw [List.set_append_right _ _ (by omega),Nat.add_sub_cancel_left,List.set_append_left _ _ (by simp [ab];omega)];congr 2;unfold ab;rw [List.map_set];refine List.ext_getElem? fun j=>?_;rcases Nat.lt_or_ge j ms.length with a | a
  ·rw [List.getElem?_set,List.getElem?_reverse (by simpa using a),List.getElem?_reverse (by simpa using a)];simp only [List.length_map,List.length_reverse,List.length_set,List.getElem?_set];by_cases m:ms.length - 1 - i=j
   ·rw [if_pos m,if_pos (by omega),if_pos (by omega),if_pos (by omega)]
   ·rw [if_neg m,if_neg (by omega)]
  ·rw [List.getElem?_eq_none (by simpa using a),List.getElem?_eq_none (by simpa using a)]
 rw [e] at l;exact l
theorem MB {t:TypeId}{s x:Operand}{v:Value}{bytes k b d c:Nat}{ms:List (Nat×List MapEntry×Nat)}{e f:List (List (κ×β))}(i:P.underlying t=some (.slice T)) (j:Nc P T Gf Kd 1 bytes) (l:Kd.length=1)
  (m:rb fr s v) (n:rb fr x (.slice (some ⟨b,0,none⟩) 1 c)) (o:la μ w0 w rs) (p:Bc rs k (.row v T 1 e.length (sd ms))) (q:bj w b 0 [.map (some d)]) (r:app e [([]:List (κ×β))]=some f) (u:bytes≤4096)
  (h:∀ a w' rs',wc rs k (.row a T 1 f.length (sd ms++[.map (some d)])) rs'→la μ w0 w' rs'→Rg fr dst a fun za=>K za ds w') :
  Pd P (Oper.mk dst (.call { callee:=.builtin .append,args:=#[s,x],argTypes:=#[t,t] }) ty pos after g) fr ds w K Q:=by
 obtain ⟨y,z⟩:=Hu r;refine gr i j (by simp [l]) m n o p q rfl rfl ⟨z,u⟩ fun a w' rs' A=>h a w' rs' (by rw [y];exact A)
theorem _root_.Go.vc.Sep.jC {pre:List Gb}{ms:List (Nat×List MapEntry×Nat)}{b c:Nat}{es:List MapEntry}(a:la μ w0 w (pre++(.map b es c::(ab ms++rs)))):la μ w0 w (pre++(ab (ms++[(b,es,c)])++rs)):=by
 rw [VC];exact a
theorem Iz (ms:List (Nat×List MapEntry×Nat)) (b c:Nat) (es:List MapEntry):sd ms++[.map (some b)]=sd (ms++[(b,es,c)]):=by simp [sd]
theorem _root_.Go.vc.Sep.vv {pre:List Gb}{ms:List (Nat×List MapEntry×Nat)}{j:Nat}(a:la μ w0 w (pre++(ab ms++rs))):la μ w0 w (pre++(ab (ms.take j)++rs)):=by
 have c:(pre++(ab (ms.take j)++rs)).Sublist (pre++(ab ms++rs)):=by
  refine (List.Sublist.refl pre).append (List.Sublist.append ?_ (List.Sublist.refl rs));unfold ab;exact ((List.take_sublist j ms).map _).reverse
 refine ⟨a.keeps,fun r e=>a.all r (c.subset e),(c.filterMap _).nodup a.oi,fun b f=>a.new b ((c.filterMap _).subset f),?_⟩;refine a.Hi.mono fun k _ d=>⟨d.1,fun hm=>d.2 ((c.filterMap Gb.block).subset hm)⟩
theorem Row.kC {v:Value}{sz:Nat}{xs:List Value}{j:Int}(h:Row w v T sz n xs) (e:0≤j) (r:j≤n) :
  ∃ b,eo v sz none (some j) b∧b.ownBlock=v.ownBlock∧∀ w T,Row w v T sz n xs→Row w b T sz j.toNat (xs.take (j.toNat*sz)):=by
 have c:∀ w T,Row w v T sz n xs→(xs.take (j.toNat*sz)).length=j.toNat*sz:=fun w T h=>by
  rw [List.length_take,h.1];exact Nat.min_eq_left (Nat.mul_le_mul_right _ (by omega))
 rcases h.2 with ⟨rfl,rfl⟩ | ⟨g,o,cap,cur,rfl,s,t,u,x,y⟩
 ·have:j=0:=by omega
  subst this;exact ⟨.slice none 0 0,⟨none,0,0,rfl,by simp,by simp,by simp,by simp⟩,rfl,fun w T h=>⟨c w T h,.inl ⟨rfl,rfl⟩⟩⟩
 ·refine ⟨.slice (some ⟨g,o,none⟩) j.toNat cap,⟨_,_,_,rfl,by simp,by simpa using e,by simp;omega,?_⟩,rfl,fun f i d=>⟨c f i d,.inr ?_⟩⟩
  ·simp [ek]
  ·rcases d.2 with ⟨a,_⟩ | ⟨Vg,z,A,k,a,l,k1,m,p,q⟩
   ·simp at a
   ·simp at a;obtain ⟨⟨rfl,rfl⟩,rfl⟩:=a;exact ⟨g,o,cap,k,rfl,l,by omega,m,p,by rw [← q,List.take_take,Nat.min_eq_left (Nat.mul_le_mul_right _ (by omega))]⟩
theorem Row.cutFrom {v:Value}{sz:Nat}{xs:List Value}{i:Int}(h:Row w v T sz n xs) (j:0≤i) (gb:i≤n) :
  ∃ b,eo v sz (some i) none b∧b.ownBlock=v.ownBlock∧∀ w T,Row w v T sz n xs→Row w b T sz (n - i.toNat) (xs.drop (i.toNat*sz)):=by
 have d:∀ w T,Row w v T sz n xs→(xs.drop (i.toNat*sz)).length=(n - i.toNat)*sz:=fun w T h=>by
  rw [List.length_drop,h.1,Nat.sub_mul]
 rcases h.2 with ⟨rfl,rfl⟩ | ⟨g,o,cap,cur,rfl,p,q,r,s,t⟩
 ·have:i=0:=by omega
  subst this;exact ⟨.slice none 0 0,⟨none,0,0,rfl,by simp,by simp,by simp,by simp⟩,rfl,fun w T h=>⟨d w T h,.inl ⟨rfl,by simp⟩⟩⟩
 ·refine ⟨_,⟨_,_,_,rfl,by simpa using j,by simpa using gb,by simp;omega,rfl⟩,by simp only [Option.getD_some];split<;>simp [Value.ownBlock,ek],fun k l c=>⟨d k l c,.inr ?_⟩⟩;rcases c.2 with ⟨a,_⟩ | ⟨Vg,u,x,e,a,f,k1,y,z,m⟩
  ·simp at a
  ·simp at a;obtain ⟨⟨rfl,rfl⟩,rfl⟩:=a;have hmul:i.toNat*sz+(cap - i.toNat)*sz=cap*sz:=by rw [← Nat.add_mul];congr 1;omega
   by_cases hc:cap=i.toNat
   ·refine ⟨g,o,cap - i.toNat,e,by simp [hc],f,by omega,by omega,by omega,?_⟩;rw [show n - i.toNat=0 by omega,Nat.zero_mul,List.take_zero,List.drop_eq_nil_of_le (by rw [c.1];exact Nat.mul_le_mul_right _ (by omega))]
   ·refine ⟨g,o+i.toNat*sz,cap - i.toNat,e,by simp [hc,ek],f,by omega,by omega,by omega,?_⟩;rw [← m,← List.drop_drop,List.drop_take,Nat.sub_mul]
theorem ma.drop {α:Type}[Wa α]:∀ {l:List α}{cells:List Value}(i:Nat),ma μ cells l→ma μ (cells.drop (i*Wa.sz α)) (l.drop i)
 | [],cells,i,h=>by rw [ma] at h; subst h; simp [ma]
 | x::l,cells,0,h=>by simpa using h
 | x::l,cells,i+1,h=>by
  rw [ma] at h;obtain ⟨cs,t,rfl,a,b⟩:=h;have e:(i+1)*Wa.sz α=cs.length+i*Wa.sz α:=by rw [Nat.add_mul,Wa.sh a];omega
  rw [e,← List.drop_drop];simpa using ma.drop i b
theorem Row.uC {α:Type}[Wa α]{v:Value}{cells:List Value}{l b:List α}{i:Int}(h:Row w v T (Wa.sz α) l.length cells) (hm:ma μ cells l) (g:cut l i l.length=some b) :
  ∃ a c,eo v (Wa.sz α) (some i) none a∧a.ownBlock=v.ownBlock∧(∀ w T,Row w v T (Wa.sz α) l.length cells→Row w a T (Wa.sz α) b.length c)∧ma μ c b:=by
 obtain ⟨⟨d,e,m⟩,rfl⟩:=gq g;obtain ⟨a,ra,f,j⟩:=Row.cutFrom h d e;refine ⟨a,cells.drop (i.toNat*Wa.sz α),ra,f,fun w T k=>?_,by simpa using hm.drop i.toNat⟩;have:=j w T k;simpa using this
theorem Row.vC {v:Value}{ms:List (Nat×List MapEntry×Nat)}{a c:List (List (κ×β))}{j:Int}(h:Row w v T 1 a.length (sd ms)) (hm:Zd μ ms a) (g:cut a 0 j=some c) :
  ∃ b d,eo v 1 none (some j) b∧b.ownBlock=v.ownBlock∧(∀ w T,Row w v T 1 a.length (sd ms)→Row w b T 1 c.length (sd d))∧Zd μ d c∧ms.take j.toNat=d:=by
 obtain ⟨⟨m,e,f⟩,rfl⟩:=gq g;obtain ⟨b,ra,i,k⟩:=Row.kC h e f;refine ⟨b,ms.take j.toNat,ra,i,fun w T l=>?_,by simpa using hm.take j.toNat,rfl⟩;have:=k w T l;have el:((a.take j.toNat).drop (0:Int).toNat).length=j.toNat:=by simp;omega
 rw [el];have ya:sd (ms.take j.toNat)=(sd ms).take (j.toNat*1):=by simp [sd]
 rw [ya];exact this
theorem _root_.Go.vc.Sep.perm {S Sd:Nat→Prop}{A:World→Prop}(h:Sep S Sd w0 w rs A) (a:rs.Perm rs'):Sep S Sd w0 w rs' A where
 keeps:=h.keeps
 all r d:=h.all r (a.mem_iff.2 d)
 oi:=(a.filterMap _).nodup_iff.1 h.oi
 new b e:=h.new b ((a.filterMap _).mem_iff.2 e)
 Hi:=h.Hi.mono fun k _ c=>⟨c.1,fun hm=>c.2 ((a.filterMap Gb.block).mem_iff.2 hm)⟩
theorem _root_.Go.vc.Sep.Ac {a p M R:List Gb}(h:la μ w0 w (a++(p++(M++R)))):la μ w0 w (a++(M++(p++R))):=
 h.perm (List.Perm.append_left a (by
  rw [← List.append_assoc,← List.append_assoc];exact List.Perm.append_right R List.perm_append_comm))
theorem _root_.Go.vc.Sep.Ro {k:Nat}{v c:Value}{sz d:Nat}{xs e:List Value}{S Sd:Nat→Prop}{A:World→Prop}(a:Sep S Sd w0 w rs A) (f:Bc rs k (.row v T sz n xs)) (l:c.ownBlock=v.ownBlock) (m:∀ w T,Row w v T sz n xs→Row w c T sz d e) (g:wc rs k (.row c T sz d e) rs'):Sep S Sd w0 w rs' A:=by
 have h:Row w v T sz n xs:=a.get f;cases o:v.ownBlock with
 | some b=>exact a.put (b:=b) (r:=.row v T sz n xs) (r':=.row c T sz d e) f o (l.trans o) g (m _ _ h) (gi.refl _)
 | none =>
  unfold wc at g;subst g;have j:=eA (r':=.row c T sz d e) f (show c.ownBlock=v.ownBlock from l);refine ⟨a.keeps,fun r p=>?_,by rw [j];exact a.oi,by rw [j];exact a.new,by rw [j];exact a.Hi⟩;obtain ⟨i,gb⟩:=List.mem_iff_getElem?.1 p;rw [List.getElem?_set] at gb;split at gb
  ·split at gb
   ·cases gb;exact m _ _ h
   ·cases gb
  ·exact a.all r (List.mem_of_getElem? gb)
end
end Go.jd
namespace Go.jd
open Go.vc Go.RowKit
theorem cc {P : Program} {f : FuncId} {fn : Func} (a : P.funcs[f]? = some fn) (b : fn.body.isSome = true := by rfl) (c : (fn.name == "runtime.NumGoroutine") = false := by kernel_rfl) : Ob P f := OF a b c
theorem qe {P : Program}{T : TypeId}{d : TypeDesc}{Gf : Bool}{z : Value}{Kd : List Value}{n m : Nat}(hu : P.underlying T = some d) (a : tv d = Gf := by rfl) (h : (P.info? T).map (fun i => (i.zero, i.size, i.bytes)) = some (some z, n, m):= by kernel_rfl) (b : z.cells = ⟨Kd⟩ := by rfl) : Nc P T Gf Kd n m := oI hu a h b
end Go.jd
namespace Go.jd
open Go.vc Go.RowKit
theorem ih {v:Value}{l:List Value}(h:Od v=true) (k:l.all Od=true):(v::l).all Od=true:=by simp [h,k]
theorem bm:([]:List Value).all Od=true:=rfl
theorem Rz (A vs:List Value) (o q N:Nat) (c:q+vs.length≤N) (d:o+N≤A.length):((A.take (o+q)++vs++A.drop (o+q+vs.length)).drop o).take N=((A.drop o).take N).take q++vs++((A.drop o).take N).drop (q+vs.length):=by
 apply List.ext_getElem?;intro j;simp only [List.getElem?_take,List.getElem?_drop,List.getElem?_append,List.length_append,List.length_take,List.length_drop];have ra:min (o+q) A.length=o+q:=by omega
 have a:min q (min N (A.length - o))=q:=by omega
 rw [ra,a];by_cases b:j<q
 ·have c2:j<N:=by omega
  have c3:j<q+vs.length:=by omega
  simp [b,c2,c3,show o+j<o+q by omega,show o+j<o+q+vs.length by omega]
 ·by_cases c2:j<q+vs.length
  ·rw [if_pos (by omega),if_pos (by omega),if_neg (by omega),if_pos (by omega),if_neg (by omega)];congr 1;omega
  ·by_cases c3:j<N
   ·rw [if_pos c3,if_neg (by omega),if_neg (by omega),if_pos (by omega)];congr 1;omega
   ·rw [if_neg c3,if_neg (by omega),if_neg (by omega)]
section
variable {P:Program}{Q:Exit→Act→World→Prop}{K:List Value→List Deferred→World→Prop}{fr za:List Value}{ds:List Deferred}{w:World}
variable {dst:Option Tmp}{ty:TypeId}{pos:String}{after:Array Edge}{g:Option (Nat×Bool)}
variable {w0:World}{rs rs':List Gb}{μ J:M}
variable {T:TypeId}{d:TypeDesc}{Gf:Bool}{Kd:List Value}{n m:Nat}
theorem Nl {x y:Operand}{b o off sz len k:Nat}{i:Int}{v e:Value}{vs xs j:List Value}{a:TypeId}{S Sd:Nat→Prop}{A:World→Prop}(t:Nc P T Gf Kd n m) (u:rb fr x (.pointer (some ⟨b,o+off,none⟩))) (z:rb fr y e) (f:e.cells=⟨vs⟩) (B:vs.length=n) (C:vs.all Od=true)
  (l:Sep S Sd w0 w rs A) (p:Bc rs k (.row v a sz len xs)) (he:Qj v sz i b o) (W:off+vs.length≤sz) (D:xs.take (i.toNat*sz+off)++vs++xs.drop (i.toNat*sz+off+vs.length)=j) (E:wc rs k (.row v a sz len j) rs')
  (tb:tf fr dst undef za) (h:∀ w',Sep S Sd w0 w' rs' A→K za ds w'):Pd P (Oper.mk dst (.store T x y) ty pos after g) fr ds w K Q:=by
 have F:Row w v a sz len xs:=l.get p;obtain ⟨c,X,c0,rfl,Y,Z,rfl⟩:=he.out;obtain ⟨hlen,d⟩:=F;rcases d with ⟨d,-⟩ | ⟨Vg,gc,cap,cur,d,G,q,H,hc,M⟩
 ·cases d
 ·cases d;have gb:i.toNat<len:=by omega
  have hmul:(i.toNat+1)*sz≤len*sz:=Nat.mul_le_mul_right _ gb;have lc:len*sz≤c0*sz:=Nat.mul_le_mul_right _ q;have rc:(i.toNat+1)*sz=i.toNat*sz+sz:=Nat.succ_mul ..;have r:ej w b a cur.toList:=G;have hle:(c+i.toNat*sz+off)+0+vs.length≤(⟨cur.toList⟩:Array Value).size:=by simp;omega
  have s:=run_storeCells_at P b (c+i.toNat*sz+off) a vs 0 ⟨cur.toList⟩ w r hle fun v f=>ou (List.all_eq_true.1 C v f);have ra:e.cells.toList=vs:=by rw [f]
  have N:¬ (e.cells.size≠n):=by rw [f];simpa using B
  have O:=t.sizeOf (w:=w);simp only [Nat.add_zero] at s;have R:gi (fun k=>k≠b) w (w.setRow b (cur.toList.take (c+i.toNat*sz+off)++vs++cur.toList.drop (c+i.toNat*sz+off+vs.length)).toArray):=⟨rfl,rfl,rfl,by simp [World.setRow],fun k fd U=>setRow_other w b k _ U⟩;refine Yy ?_ tb (h _ (l.put (b:=b) p rfl rfl E ?_ R))
  ·simp only [execOp,Instr.storeAt,u ds,z ds,Instr.sureAddr,storeVar,Sem.run_bind,O,Result.andThen_ok,if_neg N,ra,s,Sem.run_pure]
  ·subst D;refine ⟨by simp [hlen];omega,.inr ⟨b,c,c0,_,rfl,setRow_heap w b ⟨cur.toList⟩ _ a (0,0) r,q,H,?_,?_⟩⟩
   ·simp;omega
   ·subst M;have:=Rz cur.toList vs c (i.toNat*sz+off) (len*sz) (by omega) (by simp;omega);rw [← Nat.add_assoc] at this;exact this
class qJ (α β:Type) [Wa α] [Wa β] where
 code:α→List β
 set:α→List β→α
 tb:M→List Value→α→Prop
 up:∀ {μ J:M}{l:List Value}{x:α},ga μ J→tb μ l x→tb J l x
 sh:∀ {μ:M}{l:List Value}{x:α},tb μ l x→l.length+1=Wa.sz α
 wr:∀ {μ:M}{l:List Value}{x:α}{ys:List β}{a:Option Addr}{c:Nat},tb μ l x→wa μ a c ys→Wa.cs μ (l++[.slice a ys.length c]) (set x ys)
 st:∀ {μ:M}{l:List Value}{x:α}{ys:List β},tb μ l x→tb μ l (set x ys)
 Lj:∀ {x:α},set x (code x)=x
 cs:∀ {x:α}{ys:List β},code (set x ys)=ys
variable {α β:Type}[Wa α] [Wa β] [qJ α β]
end
end Go.jd
namespace Go.vc
open Go.RowKit
section
variable {P:Program}{Q:Exit→Act→World→Prop}{ops:Array Oper}{fr za:List Value}{ds:List Deferred}{w:World}
end
end Go.vc
namespace Go.vc
open Go.RowKit
section
variable {P:Program}{Q:Exit→Act→World→Prop}{ops:Array Oper}{fr za:List Value}{ds:List Deferred}{w:World}
abbrev Mon:=List Nat×(World→Prop)
def Vh (i:Nat) (Tc:List Mon):List Mon:=Tc.filter fun m=>!m.1.contains i
def qb:List Mon→World→Prop
 | [],_=>True
 | m::l,w=>m.2 w∧qb l w
theorem qb.mem {Tc:List Mon}{w:World}:qb Tc w ↔ ∀ m ∈ Tc,m.2 w:=by
 induction Tc with
 | nil=>simp [qb]
 | cons m l a=>simp [qb,a]
theorem qb.sub {Tc Ns':List Mon}(h:qb Tc w) (a:∀ m ∈ Ns',m ∈ Tc):qb Ns' w:=qb.mem.2 fun m hm=>qb.mem.1 h m (a m hm)
theorem Ju {i:Nat}{Tc:List Mon}:∀ m ∈ Vh i Tc,m ∈ Tc:=fun m hm=>(List.mem_filter.1 hm).1
theorem su {i:Nat}{Tc Ns':List Mon}(h:∀ m ∈ Ns',m ∈ Tc):∀ m ∈ Vh i Ns',m ∈ Vh i Tc:=fun m hm=>List.mem_filter.2 ⟨h m (List.mem_filter.1 hm).1,(List.mem_filter.1 hm).2⟩
def Wg (P:Program) (ops:Array Oper) (Q:Exit→Act→World→Prop):List Mon→List Nat→Act→World→Prop
 | _,[],a,w=>Q .normal a w
 | Tc,i::rest,a,w =>
  match ops[i]? with
  | none=>Wg P ops Q (Vh i Tc) rest a w
  | some o =>
   if Region.wanted o (yielded ops a.tmps) then o.wp P a w (fun a w=>qb (Vh i Tc) w∧Wg P ops Q (Vh i Tc) rest a w) Q∨(o.asks P a w∧LetsOut Q)
   else Wg P ops Q (Vh i Tc) rest (a.put o.dst undef) w
theorem ly {o:Oper}{a:Act}{K c:Act→World→Prop}(h:o.wp P a w K Q) (b:∀ a w,K a w→c a w):o.wp P a w c Q:=by
 unfold Oper.wp at h ⊢;cases d:(execOp a.eval o).run P w with
 | halt e w'=>rw [d] at h; cases e <;> exact h
 | ok r w' =>
  rw [d] at h;cases r with
  | value x=>exact b _ _ h
  | skip=>exact b _ _ h
  | defer i=>exact b _ _ h
  | enter f args =>
   rw [Oper.upon_enter] at h ⊢;refine Calls.mono h fun e g he=>?_;cases e with
   | returned x=>exact b _ _ he
   | panicked j=>exact he
   | outgrown=>exact he
  | row r args =>
   rw [Oper.upon_row] at h ⊢;exact Rows.mono h fun x g he=>b _ _ he
  | _=>exact h
theorem Wg.mono:∀ (b:List Nat){Tc Ns':List Mon}{a:Act}{w:World},Wg P ops Q Tc b a w→(∀ m ∈ Ns',m ∈ Tc)→Wg P ops Q Ns' b a w
 | [],_,_,_,_,h,_=>h
 | i::b,Tc,Ns',a,w,h,c=>by
  simp only [Wg] at h ⊢;cases d:ops[i]? with
  | none=>rw [d] at h; exact Wg.mono b h (su c)
  | some o =>
   rw [d] at h;simp only at h ⊢;split
   ·rename_i hw;rw [if_pos hw] at h;rcases h with h | h
    ·exact .inl (ly h fun a w ⟨e,f⟩=>⟨e.sub (su c),Wg.mono b f (su c)⟩)
    ·exact .inr h
   ·rename_i hw;rw [if_neg hw] at h;exact Wg.mono b h (su c)
theorem Wg.plain:∀ (b:List Nat){Tc:List Mon}{a:Act}{w:World},Wg P ops Q Tc b a w→wpOps P ops Q b a w
 | [],_,_,_,h=>h
 | i::b,Tc,a,w,h=>by
  simp only [Wg] at h;simp only [wpOps];cases c:ops[i]? with
  | none=>rw [c] at h; exact Wg.plain b h
  | some o =>
   rw [c] at h;simp only at h ⊢;split
   ·rename_i hw;rw [if_pos hw] at h;rcases h with h | h
    ·exact .inl (ly h fun a w ⟨_,d⟩=>Wg.plain b d)
    ·exact .inr h
   ·rename_i hw;rw [if_neg hw] at h;exact Wg.plain b h
theorem az (q:xh Q){N:World→Prop}{S:List Nat}{i d:Nat}{o:Oper}{v:Value}(A:ops[i]?=some o) (tb:o.dst=some d){wt:Bool}(B:wt=false→v=undef) :
  ∀ (a b:List Nat) (fr:List Value) (ds:List Deferred) (w:World) (Tc:List Mon),
   (∀ j ∈ a,j ∉ S∧match ops[j]? with
    | some p=>Bj p.op=true∧(reads ops p).contains d=false∧p.dst≠some d∧(∀ e,p.dst=some e→(reads ops o).contains e=false)
    | none=>True) →
   N w→qb Tc w→Bj o.op=true→Region.wanted o (yielded ops (F fr ds).tmps)=wt →
   (wt=true→∀ ds w,N w→(execOp (F fr ds).eval o).run P w=.ok (.value v) w) →
   Wg P ops Q ((S,N)::Tc) (a++b) (F (fr.set d v) ds) w→Wg P ops Q Tc (a++i::b) (F fr ds) w
 | [],b,fr,ds,w,Tc,_,hw,s,t,c,u,h=>by
  simp only [List.nil_append] at h ⊢;have h:=Wg.mono b h (Ns':=Vh i Tc) fun m hm=>List.mem_cons_of_mem _ (Ju m hm);simp only [Wg,A];cases wt with
  | true =>
   rw [if_pos c];left;unfold Oper.wp;rw [u rfl ds w hw,Oper.upon_value,tb];rw [show (F fr ds).put (some d) v=F (fr.set d v) ds from ha rfl ds];exact ⟨s.sub Ju,h⟩
  | false =>
   rw [if_neg (by rw [c];simp),tb,← B rfl];rw [show (F fr ds).put (some d) v=F (fr.set d v) ds from ha rfl ds];exact h
 | j::a,b,fr,ds,w,Tc,H,hw,s,t,c,u,h=>by
  obtain ⟨W,C⟩:=H j (by simp);have K:∀ k ∈ a,_:=fun k l=>H k (by simp [l]);have X:Vh j ((S,N)::Tc)=(S,N)::Vh j Tc:=by simp [Vh,W]
  simp only [List.cons_append,Wg,X] at h ⊢;cases M:ops[j]? with
  | none =>
   rw [M] at h;simp only at h ⊢;exact az q A tb B a b fr ds w _ K hw (s.sub Ju) t c u h
  | some p =>
   rw [M] at h C;simp only at h C ⊢;obtain ⟨O,D,Y,R⟩:=C;rw [Fw (fr:=fr) (v:=v) (ds:=ds) (ds':=ds) D] at h;have key:∀ (x:Value) (w':World) (ds':List Deferred),N w'→qb (Vh j Tc) w'→Wg P ops Q ((S,N)::Vh j Tc) (a++b) ((F (fr.set d v) ds').put p.dst x) w'→Wg P ops Q (Vh j Tc) (a++i::b) ((F fr ds').put p.dst x) w':=by
    intro x w' ds' Z gc l;obtain ⟨g,g1,g2,g3⟩:=put_eq fr ds' p.dst x;have hc:=wanted_put (ops:=ops) (o:=o) (p:=p) (ds':=ds') (fun y E=>g3 fr y ds' ds' E) R;rw [g1] at l ⊢;rw [g2 _ _ _ Y] at l;refine az q A tb B a b (g fr) ds' w' _ K Z gc t (hc.trans c) (fun lc n rc fd=>?_) l;rw [show execOp (F (g fr) n).eval o=execOp (F fr n).eval o from execOp_congr o t fun y E=>g3 fr y n n fun e he id=>by
     exact qu (R e he) y E id]
    exact u lc n rc fd
   by_cases T:Region.wanted p (yielded ops (F fr ds).tmps)=true
   ·rw [if_pos T] at h ⊢;rcases h with h | h
    ·left;unfold Oper.wp at h ⊢;rw [Lp (ds':=ds) O D] at h;cases U:(execOp (F fr ds).eval p).run P w with
     | halt e w' =>
      rw [U] at h;cases e<;>first | exact h | exact q _ (F (fr.set d v) ds) _ w' rfl h
     | ok r w' =>
      rw [U] at h;cases r with
      | value x=>exact ⟨h.1.2,key x w' ds h.1.1 h.1.2 h.2⟩
      | skip=>exact ⟨h.1.2,key undef w' ds h.1.1 h.1.2 h.2⟩
      | defer md=>exact ⟨h.1.2,key undef w' (md::ds) h.1.1 h.1.2 h.2⟩
      | enter f args =>
       rw [Oper.upon_enter] at h ⊢;refine Calls.mono h fun e z he=>?_;cases e with
       | returned x=>exact ⟨he.1.2,key x z ds he.1.1 he.1.2 he.2⟩
       | panicked rd=>exact q rd (F (fr.set d v) ds) _ z rfl he
       | outgrown=>exact he
      | row r args =>
       rw [Oper.upon_row] at h ⊢;exact Rows.mono h fun x z he=>⟨he.1.2,key x z ds he.1.1 he.1.2 he.2⟩
      | _=>exact h
    ·right;refine ⟨?_,h.2⟩;have G:=h.1;unfold Oper.asks at G ⊢;rw [Lp (ds':=ds) O D] at G;exact G
   ·rw [if_neg T] at h ⊢;exact key undef w ds hw (s.sub Ju) h
structure Ag (P:Program) (ops:Array Oper) (Q:Exit→Act→World→Prop) (Tc:List Mon) (R:List Nat) (fr:List Value) (ds:List Deferred) (w:World):Prop where
 out:qb Tc w→∀ a,ik ops R a→Wg P ops Q Tc a (F fr ds) w
theorem nf {R:List Nat}(h:Ag P ops Q [] R fr ds w):uf P ops Q R fr ds w:=⟨fun a b=>Wg.plain a (h.out trivial a b)⟩
theorem Ze {Tc:List Mon}(h:Q .normal (F fr ds) w):Ag P ops Q Tc [] fr ds w:=⟨fun _ b a=>by
 cases a with
 | z=>exact h
 | s h _=>exact absurd (cl h) (by simp)⟩
def xk (ops:Array Oper) (S R:List Nat) (i:Nat):Bool :=
 match ops[i]? with
 | some o=>match o.dst with
  | some d=>Bj o.op && R.all fun j=>S.contains j || (match ops[j]? with
    | some p=>Bj p.op && !(reads ops p).contains d && p.dst != some d && (match p.dst with | some e=>!(reads ops o).contains e | none=>true)
    | none=>true)
  | _=>false
 | none=>false
theorem hr {Tc:List Mon}{R Rd:List Nat}{i:Nat}(S:List Nat) (N:World→Prop){wt:Bool}{dst:Tmp}{op:Op}{ty:TypeId}{pos:String}{after:Array Edge}{l:Option (Nat×Bool)}{v:Value}(C:xh Q) (m:(decide R.Nodup && enabled ops R i && waits ops R S i && xk ops S R i && S.contains i)=true) (D:R.erase i=Rd) (n:ops[i]?=some ⟨some dst,op,ty,pos,after,l⟩)
  (E:Region.wanted ⟨some dst,op,ty,pos,after,l⟩ (yielded ops (F fr ds).tmps)=wt) (G:wt=false→v=undef) (o:N w)
  (H:wt=true→∀ ds w',N w'→(execOp (F fr ds).eval ⟨some dst,op,ty,pos,after,l⟩).run P w'=.ok (.value v) w') (f:wc fr dst v za) (h:Ag P ops Q ((S,N)::Tc) Rd za ds w):Ag P ops Q Tc R fr ds w:=⟨fun q X r=>by
 simp only [Bool.and_eq_true,decide_eq_true_eq] at m;obtain ⟨⟨⟨⟨s,t⟩,u⟩,g⟩,-⟩:=m;obtain ⟨x,y,rfl,K,z⟩:=r.split s (cl t) t;have A:=ik.later (S:=S) r s (fun j d=>by
  unfold waits at u;have:=List.all_eq_true.1 u j d;simp only [Bool.or_eq_true,beq_iff_eq,List.any_eq_true,Bool.and_eq_true,List.contains_iff_mem] at this;rcases this with h | ⟨k,k1,M,O⟩
  ·exact .inl h
  ·exact .inr ⟨k,k1,M,O⟩) x y rfl (fun hm=>(z i hm).2.1 rfl)
 unfold xk at g;simp only [n,Bool.and_eq_true,List.all_eq_true,Bool.or_eq_true,List.contains_iff_mem] at g;unfold wc at f;subst f;subst D;refine az C n rfl G (N:=N) (S:=S) (v:=v) x y fr ds w Tc (fun j d=>⟨A j d,?_⟩) o q g.1 E H (h.out ⟨o,q⟩ _ K);obtain ⟨a,b,c⟩:=z j d;have:=g.2 j a;rcases this with h | h
 ·exact absurd h (A j d)
 ·cases f:ops[j]? with
  | none=>trivial
  | some p =>
   rw [f] at h;simp only [Bool.and_eq_true,Bool.not_eq_true',bne_iff_ne,ne_eq] at h;obtain ⟨⟨⟨T,U⟩,W⟩,B⟩:=h;refine ⟨T,U,W,fun e he=>?_⟩;rw [he] at B;simpa using B⟩
theorem ml {Tc:List Mon}{R Rd:List Nat}{i:Nat}(S:List Nat){dst:Tmp}{op:Op}{ty:TypeId}{pos:String}{after:Array Edge}{v:Value}(a:xh Q) (b:(decide R.Nodup && enabled ops R i && waits ops R S i && xk ops S R i && S.contains i)=true) (c:R.erase i=Rd) (d:ops[i]?=some ⟨some dst,op,ty,pos,after,none⟩)
  (e:dk P ⟨some dst,op,ty,pos,after,none⟩ fr w v) (f:wc fr dst v za) (h:Ag P ops Q ((S,fun w'=>dk P ⟨some dst,op,ty,pos,after,none⟩ fr w' v)::Tc) Rd za ds w):Ag P ops Q Tc R fr ds w :=
 hr S _ (wt:=true) a b c d (kb rfl) (fun h=>by cases h) e (fun _ ds w' hw=>hw.out ds) f h
theorem dH {Tc:List Mon}{R Rd:List Nat}{i j d:Nat}{b:Bool}(S:List Nat){dst:Tmp}{op:Op}{ty:TypeId}{pos:String}{after:Array Edge}{v:Value}(a:xh Q) (c:(decide R.Nodup && enabled ops R i && waits ops R S i && xk ops S R i && S.contains i)=true) (e:R.erase i=Rd) (f:ops[i]?=some ⟨some dst,op,ty,pos,after,some (j,b)⟩) (g:(ops[j]?).bind (·.dst)=some d) (k:Bc fr d (.bool b))
  (l:dk P ⟨some dst,op,ty,pos,after,some (j,b)⟩ fr w v) (m:wc fr dst v za) (h:Ag P ops Q ((S,fun w'=>dk P ⟨some dst,op,ty,pos,after,some (j,b)⟩ fr w' v)::Tc) Rd za ds w):Ag P ops Q Tc R fr ds w :=
 hr S _ (wt:=true) a c e f (Np rfl g k) (fun h=>by cases h) l (fun _ ds w' hw=>hw.out ds) m h
theorem Wg.add {m:Mon}(c:∀ w,m.2 w):∀ (b:List Nat){Tc:List Mon}{a:Act}{w:World},Wg P ops Q Tc b a w→Wg P ops Q (m::Tc) b a w
 | [],_,_,_,h=>h
 | i::b,Tc,a,w,h=>by
  have d:Vh i (m::Tc)=m::Vh i Tc∨Vh i (m::Tc)=Vh i Tc:=by
   unfold Vh;rw [List.filter_cons];split
   ·exact .inl rfl
   ·exact .inr rfl
  have key:∀ {a w},Wg P ops Q (Vh i Tc) b a w→Wg P ops Q (Vh i (m::Tc)) b a w:=fun h=>by
   rcases d with e | e<;>rw [e]
   ·exact Wg.add c b h
   ·exact h
  have g:∀ {w},qb (Vh i Tc) w→qb (Vh i (m::Tc)) w:=fun h=>by
   rcases d with e | e<;>rw [e]
   ·exact ⟨c _,h⟩
   ·exact h
  simp only [Wg] at h ⊢;cases f:ops[i]? with
  | none=>rw [f] at h; exact key h
  | some o =>
   rw [f] at h;simp only at h ⊢;split
   ·rename_i hw;rw [if_pos hw] at h;rcases h with h | h
    ·exact .inl (ly h fun a w ⟨j,k⟩=>⟨g j,key k⟩)
    ·exact .inr h
   ·rename_i hw;rw [if_neg hw] at h;exact key h
theorem my {Tc:List Mon}{m:Mon}{R:List Nat}(b:∀ w,m.2 w) (h:Ag P ops Q Tc R fr ds w):Ag P ops Q (m::Tc) R fr ds w:=⟨fun c a d=>Wg.add b a (h.out c.2 a d)⟩
theorem Nh {Tc:List Mon}{R Rd:List Nat}{i:Nat}(S:List Nat){dst:Tmp}{op:Op}{ty:TypeId}{pos:String}{after:Array Edge}{v:Value}(a:xh Q) (b:(decide R.Nodup && enabled ops R i && waits ops R S i && xk ops S R i && S.contains i)=true) (c:R.erase i=Rd) (d:ops[i]?=some ⟨some dst,op,ty,pos,after,none⟩)
  (e:ef P ⟨some dst,op,ty,pos,after,none⟩ fr v) (f:wc fr dst v za) (h:Ag P ops Q Tc Rd za ds w):Ag P ops Q Tc R fr ds w :=
 hr S (fun _=>True) (wt:=true) a b c d (kb rfl) (fun h=>by cases h) trivial (fun _ ds w' _=>e.out ds w') f (my (fun _=>trivial) h)
theorem eH {Tc:List Mon}{R Rd:List Nat}{i j d:Nat}{b:Bool}(S:List Nat){dst:Tmp}{op:Op}{ty:TypeId}{pos:String}{after:Array Edge}{v:Value}(a:xh Q) (c:(decide R.Nodup && enabled ops R i && waits ops R S i && xk ops S R i && S.contains i)=true) (e:R.erase i=Rd) (f:ops[i]?=some ⟨some dst,op,ty,pos,after,some (j,b)⟩) (g:(ops[j]?).bind (·.dst)=some d) (k:Bc fr d (.bool b))
  (l:ef P ⟨some dst,op,ty,pos,after,some (j,b)⟩ fr v) (m:wc fr dst v za) (h:Ag P ops Q Tc Rd za ds w):Ag P ops Q Tc R fr ds w :=
 hr S (fun _=>True) (wt:=true) a c e f (Np rfl g k) (fun h=>by cases h) trivial (fun _ ds w' _=>l.out ds w') m (my (fun _=>trivial) h)
theorem fH {Tc:List Mon}{R Rd:List Nat}{i j d:Nat}{b b':Bool}(S:List Nat){dst:Tmp}{op:Op}{ty:TypeId}{pos:String}{after:Array Edge}(a:xh Q) (c:(decide R.Nodup && enabled ops R i && waits ops R S i && xk ops S R i && S.contains i)=true) (e:R.erase i=Rd) (f:ops[i]?=some ⟨some dst,op,ty,pos,after,some (j,b)⟩) (g:(ops[j]?).bind (·.dst)=some d) (k:Bc fr d (.bool b')) (l:(b' == b)=false)
  (m:wc fr dst undef za) (h:Ag P ops Q Tc Rd za ds w):Ag P ops Q Tc R fr ds w :=
 hr S (fun _=>True) (wt:=false) a c e f ((ru rfl g k).trans l) (fun _=>rfl) trivial (fun h=>by cases h) m (my (fun _=>trivial) h)
structure Mv (P:Program) (ops:Array Oper) (Q:Exit→Act→World→Prop) (Tc:List Mon) (R:List Nat) (fr:List Value) (ds:List Deferred) (w:World):Prop where
 m:qb Tc w
 s:Ag P ops Q Tc R fr ds w
theorem qb.s {m:Mon}{l:List Mon}(h:m.2 w) (k:qb l w):qb (m::l) w:=⟨h,k⟩
theorem qb.z:qb [] w:=trivial
theorem NB {Tc:List Mon}{R:List Nat}(c:R≠[]) (h:∀ i ∈ Po ops R,∃ o,ops[i]?=some o∧Region.wanted o (yielded ops (F fr ds).tmps)=true∧Pd P o fr ds w (Mv P ops Q (Vh i Tc) (R.erase i)) Q):Ag P ops Q Tc R fr ds w:=⟨fun j d e=>by
 cases e with
 | z=>exact absurd rfl c
 | @s _ d i b f =>
  obtain ⟨o,g,hw,gb⟩:=h i (List.mem_filter.2 ⟨cl b,b⟩);simp only [Wg,g];rw [if_pos hw];exact .inl (gb.out _ fun za ds' w' a=>⟨a.m,a.s.out a.m _ f⟩)⟩
theorem kd {Tc Ns':List Mon}{R:List Nat}{i:Nat}{Rd:List Nat}{o:Oper}(b:Po ops R=[i]) (c:R.erase i=Rd) (tb:Vh i Tc=Ns') (d:ops[i]?=some o) (hw:Region.wanted o (yielded ops (F fr ds).tmps)=true)
  (h:Pd P o fr ds w (Mv P ops Q Ns' Rd) Q):Ag P ops Q Tc R fr ds w :=
 NB (by intro e;subst e;cases b) fun k a=>by
  rw [b] at a;simp at a;subst a;exact ⟨_,d,hw,by rw [c,tb];exact h⟩
theorem BC {Tc d f:List Mon}{R:List Nat}{i j:Nat}{g h:List Nat}{a b:Oper}(l:Po ops R=[i,j]) (m:R.erase i=g) (n:R.erase j=h) (o:Vh i Tc=d) (p:Vh j Tc=f) (gb:ops[i]?=some a) (q:ops[j]?=some b) (r:Region.wanted a (yielded ops (F fr ds).tmps)=true) (s:Region.wanted b (yielded ops (F fr ds).tmps)=true)
  (t:Pd P a fr ds w (Mv P ops Q d g) Q) (u:Pd P b fr ds w (Mv P ops Q f h) Q):Ag P ops Q Tc R fr ds w :=
 NB (by intro e;subst e;cases l) fun k c=>by
  rw [l] at c;simp at c;rcases c with rfl | rfl
  ·exact ⟨_,gb,r,by rw [m,o];exact t⟩
  ·exact ⟨_,q,s,by rw [n,p];exact u⟩
theorem lJ {Tc:List Mon}{R:List Nat}{Yg Zg:List Value}{d:Nat}{b:Bool}(a:Bc fr d (.bool b)) (c:wc fr d (.bool true) Yg) (e:wc fr d (.bool false) Zg)
  (f:b=true→Ag P ops Q Tc R Yg ds w) (g:¬ b=true→Ag P ops Q Tc R Zg ds w):Ag P ops Q Tc R fr ds w:=by
 cases b with
 | true=>have:=f rfl; rw [wc.same a c] at this; exact this
 | false=>have:=g (by simp); rw [wc.same a e] at this; exact this
theorem bz {Tc:List Mon}{R:List Nat}{Yg Zg:List Value}{d:Nat}{p:Prop}[Decidable p] (a:Bc fr d (.bool (decide p))) (b:wc fr d (.bool true) Yg) (c:wc fr d (.bool false) Zg)
  (e:p→Ag P ops Q Tc R Yg ds w) (f:¬ p→Ag P ops Q Tc R Zg ds w):Ag P ops Q Tc R fr ds w :=
 lJ a b c (fun h=>e (of_decide_eq_true h)) (fun h=>f fun g=>h (decide_eq_true g))
end
end Go.vc
namespace Go.jd
open Go.vc Go.RowKit
section
variable {P:Program}{Q:Exit→Act→World→Prop}{K:List Value→List Deferred→World→Prop}{fr za:List Value}{ds:List Deferred}{w:World}
variable {dst:Option Tmp}{ty:TypeId}{pos:String}{after:Array Edge}{g:Option (Nat×Bool)}
variable {w0:World}{rs rs':List Gb}{μ J:M}
variable {T:TypeId}{d:TypeDesc}{Gf:Bool}{Kd:List Value}{n m:Nat}
theorem gH {e:TypeId}{S Sd:Nat→Prop}{A:World→Prop}(c:P.underlying T=some (.slice e)) (a:Nc P e Gf Kd n m) (d:Sep S Sd w0 w rs A)
  (h:∀ b w',w.heap.size≤b→Sep S Sd w0 w' (.ba b e []::rs) A→Rg fr dst (.slice (some ⟨b,0,none⟩) 0 0) fun za=>K za ds w'):Pd P (Oper.mk dst (.buildSlice T 0 ⟨[]⟩) ty pos after g) fr ds w K Q:=by
 obtain ⟨za,tb⟩:=Mh fr dst (.slice (some ⟨w.heap.size,0,none⟩) 0 0);refine eh (v:=.slice (some ⟨w.heap.size,0,none⟩) 0 0) (w':=w.alloc (.cells ⟨[]⟩ e)) ?_ tb (h _ _ (Nat.le_refl _) (d.alloc rfl (heap_alloc_new w _)) za tb);have f:=a.sizeOf (w:=w);obtain ⟨z,i,hc⟩:=a.zero (w:=w);simp [execOp,Instr.buildSlice,Sem.run_bind,run_underlying c,Result.andThen_ok,f,newRow,Instr.fill];have Sa:Array.range 0=#[]:=Array.eq_empty_of_size_eq_zero (by simp);rw [Sa,Array.map_empty]
theorem Ez {t ty:TypeId}{sz bytes:Nat}(b:P.underlying t=some (.slice T)) (e:Nc P T Gf Kd sz bytes){v:Value}{xs:List Value}(f:Row w v T sz n xs){a:Option Addr}{c:Nat} :
  (Builtin.append_ #[t,t] ty #[v,.slice a 0 c]).run P w=.ok v w:=by
 have d:=e.sizeOf (w:=w);rcases f.2 with ⟨rfl,rfl⟩ | ⟨g,o,cap,cur,rfl,i,h,j,k,l⟩
 ·cases a<;>simp [Builtin.append_,run_underlying b,d,Builtin.lenOf,Builtin.firstCells,loadCells,loadCellsFrom]
 ·cases a<;>simp [Builtin.append_,run_underlying b,d,Builtin.lenOf,Builtin.firstCells,h,storeCells,loadCells,loadCellsFrom]
theorem av {α:Type}[Wa α]{t:TypeId}{s x:Operand}{v:Value}{bytes k c:Nat}{a:Option Addr}{cells news:List Value}{l ys j:List α}(n:P.underlying t=some (.slice T)) (p:Nc P T Gf Kd (Wa.sz α) bytes) (z:Kd.length=Wa.sz α)
  (q:rb fr s v) (r:rb fr x (.slice a ys.length c)) (f:la μ w0 w rs) (m:Bc rs k (.row v T (Wa.sz α) l.length cells)) (A:ys≠[]→∃ b o,a=some ⟨b,o,none⟩∧xc μ b o news) (d:ma μ news ys) (B:app l ys=some j) (C:bytes≤4096)
  (h:∀ i w' rs',wc rs k (.row i T (Wa.sz α) j.length (cells++news)) rs'→la μ w0 w' rs'→Rg fr dst i fun za=>K za ds w') :
  Pd P (Oper.mk dst (.call { callee:=.builtin .append,args:=#[s,x],argTypes:=#[t,t] }) ty pos after g) fr ds w K Q:=by
 obtain ⟨u,D⟩:=Hu B;by_cases y:ys=[]
 ·subst y;obtain rfl:news=[]:=d;have E:Row w v T (Wa.sz α) l.length cells:=f.get m;obtain ⟨za,tb⟩:=Mh fr dst v;have F:=h v w rs (by
   have:j.length=l.length:=by simpa using u
   rw [this,List.append_nil];unfold wc;obtain ⟨G,e⟩:=List.getElem?_eq_some_iff.1 (show rs[k]?=_ from m);rw [← e];exact List.set_getElem_self G) f
  refine eh (v:=v) (w':=w) ?_ tb (F za tb);have ra:=q ds;have H:=r ds;have d:=Ez (P:=P) (ty:=ty) (a:=a) (c:=c) n p E;simp [execOp,resolve,invoke,builtin,ra,H,d]
 ·obtain ⟨b,o,rfl,M⟩:=A y;exact gr n p (by simp [z,Wa.pos]) q r f m (M _ f.a) d.len d.Ug ⟨D,C⟩ fun i w' rs' N=>h i w' rs' (by rw [u];exact N)
end
end Go.jd
