/- Texts of Xt. -/
import Derived.Test.YtbdiobhgejmgoaaGreatDoorCWk
import Derived.LoopN
import Derived.KernelRfl
set_option linter.unusedSimpArgs false
set_option linter.unusedVariables false
set_option linter.unusedSectionVars false
namespace Go.ec
open Go.Sb Go.RowKit
abbrev M:=World→Prop
def ra (μ U:M):Prop:=∀ w,U w→μ w
theorem ra.r {μ:M}:ra μ μ:=fun _ h=>h
theorem ra.t {a b c:M}(h:ra a b) (k:ra b c):ra a c:=fun w x=>h w (k w x)
abbrev Na (μ:M) (J w:World) (rs:List wb):Prop:=Sep (fun _=>False) (fun _=>True) J w rs μ
def Ae (μ:M) (b o:Nat) (cs:List Value):Prop:=∀ w,μ w→uj w b o cs
theorem Ae.up {μ U:M}{b o:Nat}{cs:List Value}(h:Ae μ b o cs) (l:ra μ U):Ae U b o cs:=fun w k=>h w (l w k)
class Ob (α:Type) where
 Jb:Nat
 pos:0<Jb
 cs:M→List Value→α→Prop
 jk:∀ {μ:M}{l:List Value}{x:α},cs μ l x→l.length=Jb
 up:∀ {μ U:M}{l:List Value}{x:α},ra μ U→cs μ l x→cs U l x
 Fj:∀ {μ:M}{l:List Value}{x:α},cs μ l x→l.all Zf=true
structure nd {α:Type}(Jb:Nat) (R:List Value→α→Prop) (μ:M) (a:Option Addr) (c:Nat) (xs:List α):Prop where
 le:xs.length≤c
 cap:c≤maxLen
 el:xs=[]∨∃ b o,a=some ⟨b,o,none⟩∧∃ g:Nat→List Value,∀ i x,xs[i]?=some x→Ae μ b (o+i*Jb) (g i)∧R (g i) x
abbrev mb {α:Type}[Ob α] (μ:M) (a:Option Addr) (c:Nat) (xs:List α):Prop:=nd (Ob.Jb α) (Ob.cs μ) μ a c xs
theorem nd.imp {α:Type}{Jb:Nat}{R R':List Value→α→Prop}{μ U:M}{a:Option Addr}{c:Nat}{xs:List α}(h:nd Jb R μ a c xs) (l:ra μ U) (f:∀ (i:Nat) (cs:List Value) (x:α),xs[i]?=some x→R cs x→R' cs x):nd Jb R' U a c xs where
 le:=h.le
 cap:=h.cap
 el:=by
  rcases h.el with h | ⟨b,o,j,g,e⟩
  ·exact .inl h
  ·exact .inr ⟨b,o,j,g,fun i x d=>⟨(e i x d).1.up l,f i _ x d (e i x d).2⟩⟩
theorem mb.up {α:Type}[Ob α]{μ U:M}{a:Option Addr}{c:Nat}{xs:List α}(h:mb μ a c xs) (l:ra μ U):mb U a c xs:=nd.imp h l fun _ _ _ _=>Ob.up l
theorem mb.nil {α:Type}[Ob α]{μ:M}{a:Option Addr}:mb (α:=α) μ a 0 []:=⟨by simp,by simp,.inl rfl⟩
instance:Ob Int where
 Jb:=1
 pos:=by decide
 cs _ l x:=l=[.int .i64 x]
 jk h:=by rw [h];rfl
 up _ h:=h
 Fj h:=by rw [h];rfl
instance:Ob Bool where
 Jb:=1
 pos:=by decide
 cs _ l x:=l=[.bool x]
 jk h:=by rw [h];rfl
 up _ h:=h
 Fj h:=by rw [h];rfl
instance:Ob (List UInt8) where
 Jb:=1
 pos:=by decide
 cs _ l x:=l=[S x]
 jk h:=by rw [h];rfl
 up _ h:=h
 Fj h:=by rw [h];rfl
def i64 (n:Int):Option Int:=if -9223372036854775808≤n∧n≤9223372036854775807 then some n else none
def at_ {α:Type}(l:List α) (i:Int):Option α:=if 0≤i then l[i.toNat]? else none
def cut {α:Type}(l:List α) (i j:Int):Option (List α):=if 0≤i∧i≤j∧j≤l.length then some ((l.take j.toNat).drop i.toNat) else none
def cat (a b:List UInt8):Option (List UInt8):=if a.length+b.length≤9223372036854775807 then some (a++b) else none
def app {α:Type}(l:List α) (xs:List α):Option (List α):=if l.length+xs.length≤4294967296 then some (l++xs) else none
theorem La {α β:Type}{o:Option α}{f:α→Option β}{r:β}(h:Option.bind o f=some r):∃ x,o=some x∧f x=some r:=Option.bind_eq_some_iff.1 h
theorem db {α:Type}{c:Prop}[Decidable c]{x y:α}{r:α}(a:c) (h:(if c then x else y)=r):x=r:=by rwa [if_pos a] at h
theorem eb {α:Type}{c:Prop}[Decidable c]{x y:α}{r:α}(a:¬ c) (h:(if c then x else y)=r):y=r:=by rwa [if_neg a] at h
theorem pr {n x:Int}(h:i64 n=some x):x=n∧-9223372036854775808≤n∧n≤9223372036854775807:=by
 unfold i64 at h;split at h
 ·rename_i a;exact ⟨(Option.some.inj h).symm,a⟩
 ·cases h
theorem ox {n x:Int}(h:i64 n=some x):IntKind.i64.wrap n=x:=by
 obtain ⟨rfl,a,b⟩:=pr h;exact wr (by omega)
theorem Bv {α:Type}{l:List α}{i:Int}{x:α}(h:at_ l i=some x):0≤i∧i<l.length∧l[i.toNat]?=some x:=by
 unfold at_ at h;split at h
 ·rename_i a;refine ⟨a,?_,h⟩;have:=(List.getElem?_eq_some_iff.1 h).1;omega
 ·cases h
theorem cv {α:Type}{l ys:List α}{i j:Int}(h:cut l i j=some ys):(0≤i∧i≤j∧j≤l.length)∧ys=(l.take j.toNat).drop i.toNat:=by
 unfold cut at h;split at h
 ·rename_i a;exact ⟨a,(Option.some.inj h).symm⟩
 ·cases h
theorem CD {a b c:List UInt8}(h:cat a b=some c):c=a++b∧a.length+b.length≤9223372036854775807:=by
 unfold cat at h;split at h
 ·rename_i d;exact ⟨(Option.some.inj h).symm,d⟩
 ·cases h
theorem kq {α:Type}{a b c:List α}(h:app a b=some c):c=a++b∧a.length+b.length≤4294967296:=by
 unfold app at h;split at h
 ·rename_i d;exact ⟨(Option.some.inj h).symm,d⟩
 ·cases h
structure Xv (v:Value) (Jb:Nat) (i:Int) (b o:Nat):Prop where
 out:∃ a n c,v=.slice (some ⟨b,a,none⟩) n c∧0≤i∧i<n∧a+i.toNat*Jb=o
theorem nd.elem {α:Type}{Jb:Nat}{R:List Value→α→Prop}{μ:M}{a:Option Addr}{c:Nat}{xs:List α}{i:Int}{x:α}(h:nd Jb R μ a c xs) (g:at_ xs i=some x) :
  ∃ b o cs,Xv (.slice a xs.length c) Jb i b o∧Ae μ b o cs∧R cs x:=by
 obtain ⟨j,k,d⟩:=Bv g;rcases h.el with rfl | ⟨b,o,rfl,f,e⟩
 ·simp at d
 ·exact ⟨b,_,f i.toNat,⟨o,_,_,rfl,j,k,rfl⟩,(e _ _ d).1,(e _ _ d).2⟩
def Sa {α:Type}[Ob α] (μ:M):List Value→List α→Prop
 | cells,[]=>cells=[]
 | cells,x::l=>∃ cs t,cells=cs++t∧Ob.cs μ cs x∧Sa μ t l
theorem Sa.len {α:Type}[Ob α]{μ:M}:∀ {l:List α}{cells:List Value},Sa μ cells l→cells.length=l.length*Ob.Jb α
 | [],cells,h=>by rw [Sa] at h; simp [h]
 | x::l,cells,h=>by
  rw [Sa] at h;obtain ⟨cs,t,rfl,a,b⟩:=h;simp [Sa.len b,Ob.jk a,Nat.add_mul,Nat.add_comm]
theorem Sa.up {α:Type}[Ob α]{μ U:M}(a:ra μ U):∀ {l:List α}{cells:List Value},Sa μ cells l→Sa U cells l
 | [],cells,h=>by rw [Sa] at h ⊢; exact h
 | x::l,cells,h=>by
  rw [Sa] at h ⊢;obtain ⟨cs,t,b,c,d⟩:=h;exact ⟨cs,t,b,Ob.up a c,Sa.up a d⟩
theorem Sa.cat {α:Type}[Ob α]{μ:M}{b:List α}{a:List Value}(k:Sa μ a b):∀ {l:List α}{cells:List Value},Sa μ cells l→Sa μ (cells++a) (l++b)
 | [],cells,h=>by rw [Sa] at h; subst h; exact k
 | x::l,cells,h=>by
  rw [Sa] at h;obtain ⟨cs,t,rfl,c,d⟩:=h;rw [List.cons_append,Sa];exact ⟨cs,t++a,by simp,c,Sa.cat k d⟩
theorem Sa.nil {α:Type}[Ob α]{μ:M}:Sa μ [] ([]:List α):=rfl
theorem Sa.one {α:Type}[Ob α]{μ:M}{cs:List Value}{x:α}(h:Ob.cs μ cs x):Sa μ cs [x]:=⟨cs,[],by simp,h,rfl⟩
theorem Sa.cons {α:Type}[Ob α]{μ:M}{cs t:List Value}{x:α}{l:List α}(h:Ob.cs μ cs x) (k:Sa μ t l):Sa μ (cs++t) (x::l):=⟨cs,t,rfl,h,k⟩
theorem Sa.Fj {α:Type}[Ob α]{μ:M}:∀ {l:List α}{cells:List Value},Sa μ cells l→cells.all Zf=true
 | [],cells,h=>by rw [Sa] at h; simp [h]
 | x::l,cells,h=>by
  rw [Sa] at h;obtain ⟨cs,t,rfl,a,b⟩:=h;rw [List.all_append,Ob.Fj a,Sa.Fj b];rfl
theorem Sa.get {α:Type}[Ob α]{μ:M}:∀ {l:List α}{cells:List Value}{i:Nat}{x:α},Sa μ cells l→l[i]?=some x→Ob.cs μ ((cells.drop (i*Ob.Jb α)).take (Ob.Jb α)) x
 | [],cells,i,x,h,a=>by simp at a
 | y::l,cells,i,x,h,a=>by
  rw [Sa] at h;obtain ⟨cs,t,rfl,b,c⟩:=h;cases i with
  | zero=>simp at a; subst a; simp [← Ob.jk b]; exact b
  | succ i =>
   simp at a;have:=Sa.get c a;have e:(i+1)*Ob.Jb α=cs.length+i*Ob.Jb α:=by rw [Nat.add_mul,Ob.jk b];omega
   rw [e,← List.drop_drop];simpa using this
section
variable {P:Program}{Q:Exit→Act→World→Prop}{K:List Value→List Deferred→World→Prop}{fr Va:List Value}{ds:List Deferred}{w:World}
variable {dst:Option Tmp}{ty:TypeId}{pos:String}{after:Array Edge}{g:Option (Nat×Bool)}
variable {J:World}{rs mc:List wb}{μ:M}
variable {T:TypeId}{d:TypeDesc}{xe:Bool}{Sc:List Value}{n m:Nat}
theorem Fc {c:Code}(d:List Nat) (g:d.Nodup) (vf:List Db→World→Prop) (i:∀ m w,vf m w→opens m=d)
  (h:Td P c (Exit.then (fun j w'=>∃ m Va,j=F Va ds∧kd m fr Va∧vf m w') Q) fr ds w)
  (k:∀ m t w,vf m w→Q .normal (F (Ig t m fr) ds) w):Td P c Q fr ds w:=⟨
 wp_mono h.out fun e a w' b=>by
  cases e with
  | normal =>
   obtain ⟨m,Va,rfl,n,f⟩:=b;obtain ⟨o,p⟩:=n.ex (by rw [i m w' f];exact g);have:=k m o w' f;rw [← p] at this;exact this
  | exit id=>exact b
  | goto l=>exact b
  | ret=>exact b
  | panic q=>exact b
  | outgrown=>exact b⟩
theorem yf {c:Code}(e:List Nat) (j:e.Nodup) (vf:Nat→List Db→World→Prop) (g:∀ n m w,vf n m w→opens m=e) (f:Nat) (m0:List Db) (k:kd m0 fr fr) (h:vf f m0 w)
  (round:∀ n m t w,vf n m w→Td P c (Exit.then (fun l w'=>∃ b d Va,l=F Va ds∧kd d fr Va∧vf b d w'∧b<n) Q) (Ig t m fr) ds w):Td P (.loop c) Q fr ds w:=by
 refine eF (α:={ p:Nat×List Db // opens p.2=e }) e j (fun p=>p.1.2) (fun p=>p.2) (fun p w=>vf p.1.1 p.1.2 w) (fun p _=>p.1.1) ⟨(f,m0),g f m0 w h⟩ k h fun p t w o=>?_;refine (round p.1.1 p.1.2 t w o).mono (PA fun a w' ⟨b,d,Va,q,r,i,s⟩=>⟨⟨(b,d),g b d w' i⟩,Va,q,r,i,s⟩)
theorem Xc {c:Operand}{x y:Code}{b:Bool}(a:qb fr c (.bool b)) (d:b=true→Td P x Q fr ds w) (e:¬ b=true→Td P y Q fr ds w):Td P (.cond c x y) Q fr ds w :=
 Uv a d fun h=>e (by rw [h];simp)
theorem Ml {c:Operand}{x y:Code}{b:Bool}(a:qb fr c (.bool (!b))) (d:¬ b=true→Td P x Q fr ds w) (e:b=true→Td P y Q fr ds w):Td P (.cond c x y) Q fr ds w :=
 Uv a (fun h=>d (by simpa using h)) fun h=>e (by simpa using h)
theorem jz {ops:Array Oper}{l:List Oper}{a c:List Value}{d:Nat}{b:Bool}(e:Xb fr d (.bool b)) (f:hc fr d (.bool true) a) (g:hc fr d (.bool false) c)
  (i:b=true→wh P ops Q l a ds w) (j:¬ b=true→wh P ops Q l c ds w):wh P ops Q l fr ds w:=Vv e f g i fun h=>j (by rw [h];simp)
theorem Cv {ops:Array Oper}{l:List Oper}{a c:List Value}{d:Nat}{b:Bool}(e:Xb fr d (.bool (!b))) (f:hc fr d (.bool true) a) (g:hc fr d (.bool false) c)
  (i:¬ b=true→wh P ops Q l a ds w) (j:b=true→wh P ops Q l c ds w):wh P ops Q l fr ds w:=Vv e f g (fun h=>i (by simpa using h)) fun h=>j (by simpa using h)
inductive da:List wb→Nat→List wb→Prop where
 | z {rs:List wb}:da rs 0 rs
 | s {a r:wb} {rs mc:List wb} {k:Nat} (h:da rs k (r::mc)):da (a::rs) (k+1) (r::a::mc)
theorem da.perm {k:Nat}{rs mc:List wb}(h:da rs k mc):rs.Perm mc:=by
 induction h with
 | z=>exact .refl _
 | s _ a=>exact (a.cons _).trans (.swap _ _ _)
theorem _root_.Go.Sb.Sep.Ma {k:Nat}{S ld:Nat→Prop}{A:World→Prop}(h:Sep S ld J w rs A) (a:da rs k mc):Sep S ld J w mc A where
 keeps:=h.keeps
 all r d:=h.all r (a.perm.mem_iff.2 d)
 Yh:=(a.perm.filterMap _).nodup_iff.1 h.Yh
 new b e:=h.new b ((a.perm.filterMap _).mem_iff.2 e)
 Gi:=h.Gi.mono fun k _ c=>⟨c.1,fun hm=>c.2 ((a.perm.filterMap wb.block).mem_iff.2 hm)⟩
theorem _root_.Go.Sb.Sep.Yv {r:wb}{B:World→Prop}(h:Na μ J w (r::rs)) (a:∀ w,r.holds w→B w):Na (fun w=>μ w∧B w) J w rs :=
 Sep.freeze h (d0 (α:=wb)) cb.z (fun _ _=>.inl trivial) a
theorem _root_.Go.Sb.Sep.xm {α:Type}[Ob α]{v:Value}{cells:List Value}{l:List α}(h:Na μ J w (.row v T (Ob.Jb α) n cells::rs)) (p:Sa μ cells l) (e:l.length=n) :
  ∃ U a c,v=.slice a l.length c∧ra μ U∧mb U a c l∧Na U J w rs:=by
 have q:Row w v T (Ob.Jb α) n cells:=h.all _ (List.mem_cons_self ..);have f:=Sep.Yv (B:=fun w=>Row w v T (Ob.Jb α) n cells) h fun w hw=>hw;have hle:ra μ (fun w=>μ w∧Row w v T (Ob.Jb α) n cells):=fun w hw=>hw.1;rcases q.2 with ⟨rfl,rfl⟩ | ⟨g,o,cap,cur,rfl,D,r,s,E,F⟩
 ·obtain rfl:=List.eq_nil_of_length_eq_zero e;exact ⟨_,none,0,rfl,hle,mb.nil,f⟩
 ·subst e;refine ⟨_,some ⟨g,o,none⟩,cap,rfl,hle,⟨r,s,.inr ⟨g,o,rfl,fun i=>(cells.drop (i*Ob.Jb α)).take (Ob.Jb α),fun i x k=>⟨?_,?_⟩⟩⟩,f⟩
  ·intro G t j u d;obtain ⟨-,y⟩:=t;have z:0<l.length:=by have:=(List.getElem?_eq_some_iff.1 k).1;omega
   obtain ⟨b,H,c,m,A⟩:=y.pF z;simp at m;obtain ⟨⟨rfl,rfl⟩,rfl⟩:=m;have C:j<Ob.Jb α:=by
    have:=(List.getElem?_eq_some_iff.1 d).1;simp at this;omega
   rw [List.getElem?_take_of_lt C,List.getElem?_drop] at d;have:=A _ u d;rw [← Nat.add_assoc] at this;exact this
  ·exact Ob.up hle (p.get k)
theorem _root_.Go.Sb.Sep.Hc {α:Type}[Ob α]{b:Nat}{cells:List Value}{l:List α}(h:Na μ J w (.na b T cells::rs)) (c:Sa μ cells l) (hlen:l.length≤maxLen) :
  ∃ U,ra μ U∧mb U (some ⟨b,0,none⟩) l.length l∧Na U J w rs:=by
 have d:=Sep.Yv (B:=fun w=>Ck w b T cells) h fun w hw=>hw;have hle:ra μ (fun w=>μ w∧Ck w b T cells):=fun w hw=>hw.1;refine ⟨_,hle,⟨Nat.le_refl _,hlen,.inr ⟨b,0,rfl,fun i=>(cells.drop (i*Ob.Jb α)).take (Ob.Jb α),fun i x e=>⟨?_,Ob.up hle (c.get e)⟩⟩⟩,d⟩;intro k f j u a;have g:j<Ob.Jb α:=by
  have:=(List.getElem?_eq_some_iff.1 a).1;simp at this;omega
 rw [List.getElem?_take_of_lt g,List.getElem?_drop] at a;have:=f.2.cells _ u a;rw [Nat.zero_add] at this ⊢;exact this
theorem Vh {x y:Operand}{v:Value}{b o Jb:Nat}{k:IntKind}{i:Int}{e:TypeId}(a:P.underlying T=some (.slice e)) (d:ad P e xe Sc Jb m) (f:qb fr x v) (h:qb fr y (.int k i)) (he:Xv v Jb i b o):we P (Oper.mk dst (.indexAddr T x y) ty pos after g) fr ((.pointer (some ⟨b,o,none⟩))):=by
 obtain ⟨q,n,c,rfl,j,l,p⟩:=he.out;exact XF a d f h ⟨j,l⟩ p
theorem Oe {x y:Operand}{v:Value}{b o Jb:Nat}{k:IntKind}{i:Int}{e:TypeId}(a:P.underlying T=some (.slice e)) (c:ad P e xe Sc Jb m) (d:qb fr x v) (f:qb fr y (.int k i)) (he:Xv v Jb i b o) (j:Wc fr dst ((.pointer (some ⟨b,o,none⟩))) Va) (h:K Va ds w):xc P (Oper.mk dst (.indexAddr T x y) ty pos after g) fr ds w K Q:=pf (Vh a c d f he) j h
theorem qy {x y:Operand}{t d:TypeId}{a b c:Int}(e:qb fr x (.int .i64 a)) (f:qb fr y (.int .i64 b)) (h:i64 (a+b)=some c):we P (Oper.mk dst (.binOp .add t x y d) ty pos after g) fr ((.int .i64 c)):=fF e f (ox h)
theorem Fe {x y:Operand}{t d:TypeId}{a b c:Int}(e:qb fr x (.int .i64 a)) (f:qb fr y (.int .i64 b)) (h:i64 (a+b)=some c) (i:Wc fr dst ((.int .i64 c)) Va) (k:K Va ds w):xc P (Oper.mk dst (.binOp .add t x y d) ty pos after g) fr ds w K Q:=pf (qy e f h) i k
theorem DD {x y:Operand}{t d:TypeId}{a b c:Int}(e:qb fr x (.int .i64 a)) (f:qb fr y (.int .i64 b)) (h:i64 (a - b)=some c):we P (Oper.mk dst (.binOp .sub t x y d) ty pos after g) fr ((.int .i64 c)):=Ry e f (ox h)
theorem ED {x y:Operand}{t d:TypeId}{a b c:Int}(e:qb fr x (.int .i64 a)) (f:qb fr y (.int .i64 b)) (h:i64 (a - b)=some c) (i:Wc fr dst ((.int .i64 c)) Va) (k:K Va ds w):xc P (Oper.mk dst (.binOp .sub t x y d) ty pos after g) fr ds w K Q:=pf (DD e f h) i k
theorem FD {x y:Operand}{t:TypeId}{k:IntKind}{a:List UInt8}{i:Int}{c:UInt8}(b:P.underlying t=some .string) (d:qb fr x (S a)) (e:qb fr y (.int k i)) (h:at_ a i=some c):we P (Oper.mk dst (.index t x y) ty pos after g) fr (.int .u8 c.toNat):=zD b d e (Bv h).1 (Bv h).2.2
theorem Bt {x y:Operand}{t:TypeId}{k:IntKind}{a:List UInt8}{i:Int}{c:UInt8}(b:P.underlying t=some .string) (d:qb fr x (S a)) (e:qb fr y (.int k i)) (h:at_ a i=some c) (f:Wc fr dst (.int .u8 c.toNat) Va) (kk:K Va ds w):xc P (Oper.mk dst (.index t x y) ty pos after g) fr ds w K Q:=pf (FD b d e h) f kk
theorem GD {x y:Operand}{t d:TypeId}{a b c:List UInt8}(e:qb fr x (S a)) (f:qb fr y (S b)) (h:cat a b=some c):we P (Oper.mk dst (.binOp .add t x y d) ty pos after g) fr (S c):=by
 obtain ⟨rfl,i⟩:=CD h;exact mF e f i
theorem ry {x y:Operand}{t d:TypeId}{a b c:List UInt8}(e:qb fr x (S a)) (f:qb fr y (S b)) (h:cat a b=some c) (i:Wc fr dst (S c) Va) (k:K Va ds w):xc P (Oper.mk dst (.binOp .add t x y d) ty pos after g) fr ds w K Q:=pf (GD e f h) i k
structure Zv (v:Value) (Jb:Nat) (i j:Option Int) (b:Value):Prop where
 out:∃ a n c,v=.slice a n c∧0≤i.getD 0∧i.getD 0≤j.getD n∧j.getD n≤c∧b=.slice (if c=(i.getD 0).toNat then a else a.map (·.add ((i.getD 0).toNat*Jb))) ((j.getD n).toNat - (i.getD 0).toNat) (c - (i.getD 0).toNat)
inductive Kq (fr:List Value):Option Operand→Option Int→Prop where
 | n:Kq fr none none
 | s {x:Operand} {i:Int} (h:qb fr x (.int .i64 i)):Kq fr (some x) (some i)
theorem qF {x:Operand}{q up:Option Operand}{v r:Value}{Jb:Nat}{i j:Option Int}{e:TypeId}(f:P.underlying T=some (.slice e)) (k:ad P e xe Sc Jb m) (l:qb fr x v) (u:Kq fr q i) (t:Kq fr up j) (he:Zv v Jb i j r):we P (Oper.mk dst (.slice T x q up none) ty pos after g) fr r:=by
 obtain ⟨a,n,c,rfl,o,b,d,rfl⟩:=he.out;refine ⟨fun ds w=>?_⟩;cases u with
 | n =>
  cases t with
  | n =>
   simp at b d;simp [execOp,l ds,Instr.sliceAt,Instr.slice,run_underlying f,Instr.sliceBounds,k.sizeOf];try rfl
  | s h =>
   rename_i y i;simp at b d;have ea:i≤(c:Int):=d;simp [execOp,l ds,h ds,Instr.sliceAt,Instr.slice,run_underlying f,Instr.sliceBounds,Instr.sliceBound,asIntOf,k.sizeOf,b,ea];try rfl
 | s h =>
  rename_i y i;cases t with
  | n =>
   simp at o b d;simp [execOp,l ds,h ds,Instr.sliceAt,Instr.slice,run_underlying f,Instr.sliceBounds,Instr.sliceBound,asIntOf,k.sizeOf,o,b];try rfl
  | s z =>
   rename_i A p;simp at o b d;have ea:0≤p:=by omega
   have e2:(p.toNat:Int)=p:=by omega
   simp [execOp,l ds,h ds,z ds,Instr.sliceAt,Instr.slice,run_underlying f,Instr.sliceBounds,Instr.sliceBound,asIntOf,k.sizeOf,o,b,d,ea,e2];try rfl
theorem Pt {x:Operand}{a up:Option Operand}{v b:Value}{Jb:Nat}{i j:Option Int}{e:TypeId}(c:P.underlying T=some (.slice e)) (d:ad P e xe Sc Jb m) (f:qb fr x v) (h:Kq fr a i) (l:Kq fr up j) (he:Zv v Jb i j b) (n:Wc fr dst b Va) (k:K Va ds w):xc P (Oper.mk dst (.slice T x a up none) ty pos after g) fr ds w K Q:=pf (qF c d f h l he) n k
theorem mb.Zt {α:Type}[Ob α]{μ:M}{a:Option Addr}{c:Nat}{xs ys:List α}{i j:Option Int}(h:mb μ a c xs) (g:cut xs (i.getD 0) (j.getD xs.length)=some ys) :
  ∃ e l,Zv (.slice a xs.length c) (Ob.Jb α) i j (.slice e ys.length l)∧mb μ e l ys:=by
 obtain ⟨⟨m,n,s⟩,rfl⟩:=cv g;have hle:=h.le;refine ⟨(if c=(i.getD 0).toNat then a else a.map (·.add ((i.getD 0).toNat*Ob.Jb α))),c - (i.getD 0).toNat,⟨a,xs.length,c,rfl,m,n,by omega,?_⟩,?_⟩
 ·rw [show ((xs.take (j.getD ↑xs.length).toNat).drop (i.getD 0).toNat).length=(j.getD ↑xs.length).toNat - (i.getD 0).toNat by simp;omega]
 ·refine ⟨by simp;omega,by have:=h.cap;omega,?_⟩;rcases h.el with rfl | ⟨b,o,rfl,f,p⟩
  ·left;simp
  ·by_cases q:c=(i.getD 0).toNat
   ·left;rw [List.drop_eq_nil_iff];simp;omega
   ·right;rw [if_neg q];refine ⟨b,o+(i.getD 0).toNat*Ob.Jb α,by simp [gi],fun k=>f ((i.getD 0).toNat+k),fun k x d=>?_⟩;rw [List.getElem?_drop] at d;have r:(i.getD 0).toNat+k<(j.getD ↑xs.length).toNat:=by
     have:=(List.getElem?_eq_some_iff.1 d).1;simp at this;omega
    rw [List.getElem?_take_of_lt r] at d;have:=p _ x d;rw [Nat.add_mul,← Nat.add_assoc] at this;exact this
end
end Go.ec
namespace Go.ec
open Go.Sb Go.RowKit
section
variable {P:Program}{Q:Exit→Act→World→Prop}{K:List Value→List Deferred→World→Prop}{fr Va:List Value}{ds:List Deferred}{w:World}
variable {dst:Option Tmp}{ty:TypeId}{pos:String}{after:Array Edge}{g:Option (Nat×Bool)}
variable {J:World}{rs mc:List wb}{μ:M}
variable {T:TypeId}{d:TypeDesc}{xe:Bool}{Sc:List Value}{n m:Nat}
theorem FB {x c:Operand}{t:TypeId}{a b:List UInt8}{i:Int}(d:P.underlying t=some .string) (e:qb fr x (S a)) (f:qb fr c (.int .i64 i)) (h:cut a i a.length=some b):we P (Oper.mk dst (.slice t x (some c) none none) ty pos after g) fr (S b):=by
 obtain ⟨⟨j,k,l⟩,rfl⟩:=cv h;have:=yC (dst:=dst) (ty:=ty) (pos:=pos) (after:=after) (g:=g) d e f ⟨j,k⟩;simpa using this
theorem Gu {x c:Operand}{t:TypeId}{a b:List UInt8}{i:Int}(d:P.underlying t=some .string) (e:qb fr x (S a)) (f:qb fr c (.int .i64 i)) (h:cut a i a.length=some b) (j:Wc fr dst (S b) Va) (k:K Va ds w):xc P (Oper.mk dst (.slice t x (some c) none none) ty pos after g) fr ds w K Q:=pf (FB d e f h) j k
theorem Hu {x up:Operand}{t:TypeId}{a b:List UInt8}{j:Int}(c:P.underlying t=some .string) (d:qb fr x (S a)) (e:qb fr up (.int .i64 j)) (h:cut a 0 j=some b):we P (Oper.mk dst (.slice t x none (some up) none) ty pos after g) fr (S b):=by
 obtain ⟨⟨k,f,i⟩,rfl⟩:=cv h;have:=zC (dst:=dst) (ty:=ty) (pos:=pos) (after:=after) (g:=g) c d e ⟨f,i⟩;simpa using this
theorem GB {x up:Operand}{t:TypeId}{a b:List UInt8}{j:Int}(c:P.underlying t=some .string) (d:qb fr x (S a)) (e:qb fr up (.int .i64 j)) (h:cut a 0 j=some b) (f:Wc fr dst (S b) Va) (k:K Va ds w):xc P (Oper.mk dst (.slice t x none (some up) none) ty pos after g) fr ds w K Q:=pf (Hu c d e h) f k
theorem _root_.Go.Sb.Row.Zf {v:Value}{Jb n:Nat}{xs:List Value}(h:Row w v T Jb n xs):Zf v=true:=by
 rcases h.2 with ⟨rfl,_⟩ | ⟨g,o,cap,cur,rfl,_⟩<;>rfl
theorem HD {f:Nat}{xs ys:List Operand}{vs us:List Value}(a:kl fr xs vs) (hu:kl fr ys us):we P (Oper.mk dst (.makeFunc (.func f) ⟨xs⟩ ⟨ys⟩) ty pos after g) fr (.func (.func f) ⟨vs⟩ ⟨us⟩):=by
 refine ⟨fun ds w=>?_⟩;have b:=a ds;have c:=hu ds;simp [execOp,Instr.makeFunc,b,c]
theorem sy {f:Nat}{xs ys:List Operand}{vs us:List Value}(a:kl fr xs vs) (hu:kl fr ys us) (b:Wc fr dst (.func (.func f) ⟨vs⟩ ⟨us⟩) Va) (k:K Va ds w):xc P (Oper.mk dst (.makeFunc (.func f) ⟨xs⟩ ⟨ys⟩) ty pos after g) fr ds w K Q:=pf (HD a hu) b k
theorem Sa.app {α:Type}[Ob α]{cells news:List Value}{l xs a:List α}(h:Sa μ cells l) (k:Sa μ news xs) (g:app l xs=some a):Sa μ (cells++news) a:=by
 obtain ⟨rfl,-⟩:=kq g;exact Sa.cat k h
theorem Mx {α:Type}{l xs a:List α}(g:app l xs=some a):a.length=l.length+xs.length∧l.length+xs.length≤4294967296:=by
 obtain ⟨rfl,h⟩:=kq g;exact ⟨by simp,h⟩
theorem No {α:Type}[Ob α]{t:TypeId}{s x:Operand}{v:Value}{bytes k b d c:Nat}{cells news:List Value}{l ys e:List α}(i:P.underlying t=some (.slice T)) (j:ad P T xe Sc (Ob.Jb α) bytes) (m:Sc.length=Ob.Jb α)
  (n:qb fr s v) (o:qb fr x (.slice (some ⟨b,0,none⟩) d c)) (p:Na μ J w rs) (q:Xb rs k (.row v T (Ob.Jb α) l.length cells)) (r:uj w b 0 news) (f:Sa μ news ys) (hm:ys.length=d) (qo:app l ys=some e) (u:bytes≤4096)
  (h:∀ a w' mc,hc rs k (.row a T (Ob.Jb α) e.length (cells++news)) mc→Na μ J w' mc→Jg fr dst a fun Va=>K Va ds w') :
  xc P (Oper.mk dst (.call { callee:=.builtin .append,args:=#[s,x],argTypes:=#[t,t] }) ty pos after g) fr ds w K Q:=by
 obtain ⟨y,z⟩:=Mx qo;subst hm;refine EB i j (by simp [m,Ob.pos]) n o p q r f.len f.Fj ⟨z,u⟩ fun a w' mc A=>h a w' mc (by rw [y];exact A)
theorem _root_.Go.Sb.uj.vl {b o:Nat}{cs:List Value}(h:uj w b o cs) (i n:Nat):uj w b (o+i) ((cs.drop i).take n):=by
 intro j v a;have c:j<n:=by
  have:=(List.getElem?_eq_some_iff.1 a).1;simp at this;omega
 rw [List.getElem?_take_of_lt c,List.getElem?_drop] at a;have:=h _ v a;rw [← Nat.add_assoc] at this;exact this
theorem Ae.vl {b o:Nat}{cs:List Value}(h:Ae μ b o cs) (i n:Nat):Ae μ b (o+i) ((cs.drop i).take n):=fun w hw=>(h w hw).vl i n
theorem wc {x y:Operand}{b k:Nat}{cs vs:List Value}(d:ad P T xe Sc n m) (e:qb fr x (.pointer (some ⟨b,0,none⟩))) (f:qb fr y (.agg ⟨vs⟩)) (i:vs.length=n) (j:vs.all Zf=true)
  {S ld:Nat→Prop}{A:World→Prop}(l:Sep S ld J w rs A) {a:TypeId}(o:Xb rs k (.na b a cs)) (he:cs.length=n) (p:hc rs k (.na b a vs) mc)
  (Ua:Wc fr dst undef Va) (h:∀ w',Sep S ld J w' mc A→K Va ds w'):xc P (Oper.mk dst (.store T x y) ty pos after g) fr ds w K Q:=by
 have key:∀ (vs cs pre:List Value),vs.length=cs.length→Jc (pre++cs) pre.length vs (pre++vs):=by
  intro vs
  induction vs with
  | nil=>intro cs pre h; cases cs with
   | nil=>exact .z
   | cons c cs=>simp at h
  | cons v vs q =>
   intro cs pre h;cases cs with
   | nil=>simp at h
   | cons c cs =>
    refine .s (cs1:=pre++v::cs) (by unfold hc;simp) (by simp) ?_;have:=q cs (pre++[v]) (by simpa using h);simpa using this
 exact om d e f rfl i j l o (by simpa using key vs cs [] (by omega)) (by simp) p Ua h
theorem Su {pl:Array (Nat×Nat)}{xs:List (Nat×Operand)}{out:List Value}(a:ad P T xe Sc n m) (b:Ej P T pl) (c:Ab fr pl Sc xs out):we P (Oper.mk dst (.build T ⟨xs⟩) ty pos after g) fr (.agg ⟨out⟩):=by
 refine ⟨fun ds w=>?_⟩;obtain ⟨z,d,e⟩:=a.zero (w:=w);have f:=c.run (ds:=ds);obtain ⟨l,h,j⟩:=b.out;have hm:=j w;have k:((⟨xs⟩:Array (Nat×Operand)).map fun (i,x)=>(i,(F fr ds).eval x)).toList=xs.map fun p=>(p.1,(F fr ds).eval p.2):=by simp
 unfold execOp;simp only [Instr.build,Sem.run_bind,d,Result.andThen_ok,run_underlying h];rw [hm];simp only [Result.andThen_ok,e,k];rw [f];simp
end
end Go.ec
namespace Go.Sb
theorem ca {α:Type}{a0 a a2 a3 a4 a5 b c d a9 v:α}{l:List α}{n:Nat}(h:Xb l n v):Xb (a0::a::a2::a3::a4::a5::b::c::d::a9::l) (n+10) v:=h
theorem ga {α:Type}{a0 a a2 a3 a4 a5 b c d a9 v:α}{l e:List α}{n:Nat}(h:hc l n v e):hc (a0::a::a2::a3::a4::a5::b::c::d::a9::l) (n+10) v (a0::a::a2::a3::a4::a5::b::c::d::a9::e):=by unfold hc at *;subst h;rfl
theorem ma {α:Type}{a0 a a2 a3 a4 a5 b c d a9 e f a12 g i j k m o p v:α}{l:List α}{n:Nat}(h:Xb l n v):Xb (a0::a::a2::a3::a4::a5::b::c::d::a9::e::f::a12::g::i::j::k::m::o::p::l) (n+20) v:=h
theorem oa {α:Type}{a0 a a2 a3 a4 a5 b c d a9 e f a12 g i j k m o p v:α}{l q:List α}{n:Nat}(h:hc l n v q):hc (a0::a::a2::a3::a4::a5::b::c::d::a9::e::f::a12::g::i::j::k::m::o::p::l) (n+20) v (a0::a::a2::a3::a4::a5::b::c::d::a9::e::f::a12::g::i::j::k::m::o::p::q):=by unfold hc at *;subst h;rfl
theorem za {α:Type}{a0 a a2 a3 a4 a5 b c d a9 e f a12 g i j k m o p a20 a21 q r a24 s t u a28 w v:α}{l:List α}{n:Nat}(h:Xb l n v):Xb (a0::a::a2::a3::a4::a5::b::c::d::a9::e::f::a12::g::i::j::k::m::o::p::a20::a21::q::r::a24::s::t::u::a28::w::l) (n+30) v:=h
theorem Ea {α:Type}{a0 a a2 a3 a4 a5 b c d a9 e f a12 g i j k m o p a20 a21 q r a24 s t u a28 w v:α}{l x:List α}{n:Nat}(h:hc l n v x):hc (a0::a::a2::a3::a4::a5::b::c::d::a9::e::f::a12::g::i::j::k::m::o::p::a20::a21::q::r::a24::s::t::u::a28::w::l) (n+30) v (a0::a::a2::a3::a4::a5::b::c::d::a9::e::f::a12::g::i::j::k::m::o::p::a20::a21::q::r::a24::s::t::u::a28::w::x):=by unfold hc at *;subst h;rfl
theorem xa {α:Type}{a0 a a2 a3 a4 a5 b c d a9 e f a12 g i j k m o p a20 a21 q r a24 s t u a28 w x a31 y z A B C a37 D E v:α}{l:List α}{n:Nat}(h:Xb l n v):Xb (a0::a::a2::a3::a4::a5::b::c::d::a9::e::f::a12::g::i::j::k::m::o::p::a20::a21::q::r::a24::s::t::u::a28::w::x::a31::y::z::A::B::C::a37::D::E::l) (n+40) v:=h
theorem Pa {α:Type}{a0 a a2 a3 a4 a5 b c d a9 e f a12 g i j k m o p a20 a21 q r a24 s t u a28 w x a31 y z A B C a37 D E v:α}{l F:List α}{n:Nat}(h:hc l n v F):hc (a0::a::a2::a3::a4::a5::b::c::d::a9::e::f::a12::g::i::j::k::m::o::p::a20::a21::q::r::a24::s::t::u::a28::w::x::a31::y::z::A::B::C::a37::D::E::l) (n+40) v (a0::a::a2::a3::a4::a5::b::c::d::a9::e::f::a12::g::i::j::k::m::o::p::a20::a21::q::r::a24::s::t::u::a28::w::x::a31::y::z::A::B::C::a37::D::E::F):=by unfold hc at *;subst h;rfl
theorem Qa {α:Type}{a0 a a2 a3 a4 a5 b c d a9 e f a12 g i j k m o p a20 a21 q r a24 s t u a28 w x a31 y z A B C a37 D E a40 F G H K L a46 M N a49 v:α}{l:List α}{n:Nat}(h:Xb l n v):Xb (a0::a::a2::a3::a4::a5::b::c::d::a9::e::f::a12::g::i::j::k::m::o::p::a20::a21::q::r::a24::s::t::u::a28::w::x::a31::y::z::A::B::C::a37::D::E::a40::F::G::H::K::L::a46::M::N::a49::l) (n+50) v:=h
theorem Ta {α:Type}{a0 a a2 a3 a4 a5 b c d a9 e f a12 g i j k m o p a20 a21 q r a24 s t u a28 w x a31 y z A B C a37 D E a40 F G H K L a46 M N a49 v:α}{l P:List α}{n:Nat}(h:hc l n v P):hc (a0::a::a2::a3::a4::a5::b::c::d::a9::e::f::a12::g::i::j::k::m::o::p::a20::a21::q::r::a24::s::t::u::a28::w::x::a31::y::z::A::B::C::a37::D::E::a40::F::G::H::K::L::a46::M::N::a49::l) (n+50) v (a0::a::a2::a3::a4::a5::b::c::d::a9::e::f::a12::g::i::j::k::m::o::p::a20::a21::q::r::a24::s::t::u::a28::w::x::a31::y::z::A::B::C::a37::D::E::a40::F::G::H::K::L::a46::M::N::a49::P):=by unfold hc at *;subst h;rfl
theorem Fa {α:Type}{a0 a a2 a3 a4 a5 b c d a9 e f a12 g i j k m o p a20 a21 q r a24 s t u a28 w x a31 y z A B C a37 D E a40 F G H K L a46 M N a49 P a51 Q a53 R S T V W a59 v:α}{l:List α}{n:Nat}(h:Xb l n v):Xb (a0::a::a2::a3::a4::a5::b::c::d::a9::e::f::a12::g::i::j::k::m::o::p::a20::a21::q::r::a24::s::t::u::a28::w::x::a31::y::z::A::B::C::a37::D::E::a40::F::G::H::K::L::a46::M::N::a49::P::a51::Q::a53::R::S::T::V::W::a59::l) (n+60) v:=h
theorem ab {α:Type}{a0 a a2 a3 a4 a5 b c d a9 e f a12 g i j k m o p a20 a21 q r a24 s t u a28 w x a31 y z A B C a37 D E a40 F G H K L a46 M N a49 P a51 Q a53 R S T V W a59 v:α}{l X:List α}{n:Nat}(h:hc l n v X):hc (a0::a::a2::a3::a4::a5::b::c::d::a9::e::f::a12::g::i::j::k::m::o::p::a20::a21::q::r::a24::s::t::u::a28::w::x::a31::y::z::A::B::C::a37::D::E::a40::F::G::H::K::L::a46::M::N::a49::P::a51::Q::a53::R::S::T::V::W::a59::l) (n+60) v (a0::a::a2::a3::a4::a5::b::c::d::a9::e::f::a12::g::i::j::k::m::o::p::a20::a21::q::r::a24::s::t::u::a28::w::x::a31::y::z::A::B::C::a37::D::E::a40::F::G::H::K::L::a46::M::N::a49::P::a51::Q::a53::R::S::T::V::W::a59::X):=by unfold hc at *;subst h;rfl
theorem tb {α:Type}{a0 a a2 a3 a4 a5 b c d a9 e f a12 g i j k m o p a20 a21 q r a24 s t u a28 w x a31 y z A B C a37 D E a40 F G H K L a46 M N a49 P a51 Q a53 R S T V W a59 X Y Z gc lc rc fd id md rd v:α}{l:List α}{n:Nat}(h:Xb l n v):Xb (a0::a::a2::a3::a4::a5::b::c::d::a9::e::f::a12::g::i::j::k::m::o::p::a20::a21::q::r::a24::s::t::u::a28::w::x::a31::y::z::A::B::C::a37::D::E::a40::F::G::H::K::L::a46::M::N::a49::P::a51::Q::a53::R::S::T::V::W::a59::X::Y::Z::gc::lc::rc::fd::id::md::rd::l) (n+70) v:=h
theorem jb {α:Type}{a0 a a2 a3 a4 a5 b c d a9 e f a12 g i j k m o p a20 a21 q r a24 s t u a28 w x a31 y z A B C a37 D E a40 F G H K L a46 M N a49 P a51 Q a53 R S T V W a59 X Y Z gc lc rc fd id md rd v:α}{l wd:List α}{n:Nat}(h:hc l n v wd):hc (a0::a::a2::a3::a4::a5::b::c::d::a9::e::f::a12::g::i::j::k::m::o::p::a20::a21::q::r::a24::s::t::u::a28::w::x::a31::y::z::A::B::C::a37::D::E::a40::F::G::H::K::L::a46::M::N::a49::P::a51::Q::a53::R::S::T::V::W::a59::X::Y::Z::gc::lc::rc::fd::id::md::rd::l) (n+70) v (a0::a::a2::a3::a4::a5::b::c::d::a9::e::f::a12::g::i::j::k::m::o::p::a20::a21::q::r::a24::s::t::u::a28::w::x::a31::y::z::A::B::C::a37::D::E::a40::F::G::H::K::L::a46::M::N::a49::P::a51::Q::a53::R::S::T::V::W::a59::X::Y::Z::gc::lc::rc::fd::id::md::rd::wd):=by unfold hc at *;subst h;rfl
theorem Vb {α:Type}{a0 a a2 a3 a4 a5 b c d a9 e f a12 g i j k m o p a20 a21 q r a24 s t u a28 w x a31 y z A B C a37 D E a40 F G H K L a46 M N a49 P a51 Q a53 R S T V W a59 X Y Z gc lc rc fd id md rd a70 wd a72 Fd Id a75 a76 be ce ge v:α}{l:List α}{n:Nat}(h:Xb l n v):Xb (a0::a::a2::a3::a4::a5::b::c::d::a9::e::f::a12::g::i::j::k::m::o::p::a20::a21::q::r::a24::s::t::u::a28::w::x::a31::y::z::A::B::C::a37::D::E::a40::F::G::H::K::L::a46::M::N::a49::P::a51::Q::a53::R::S::T::V::W::a59::X::Y::Z::gc::lc::rc::fd::id::md::rd::a70::wd::a72::Fd::Id::a75::a76::be::ce::ge::l) (n+80) v:=h
theorem Lb {α:Type}{a0 a a2 a3 a4 a5 b c d a9 e f a12 g i j k m o p a20 a21 q r a24 s t u a28 w x a31 y z A B C a37 D E a40 F G H K L a46 M N a49 P a51 Q a53 R S T V W a59 X Y Z gc lc rc fd id md rd a70 wd a72 Fd Id a75 a76 be ce ge v:α}{l he:List α}{n:Nat}(h:hc l n v he):hc (a0::a::a2::a3::a4::a5::b::c::d::a9::e::f::a12::g::i::j::k::m::o::p::a20::a21::q::r::a24::s::t::u::a28::w::x::a31::y::z::A::B::C::a37::D::E::a40::F::G::H::K::L::a46::M::N::a49::P::a51::Q::a53::R::S::T::V::W::a59::X::Y::Z::gc::lc::rc::fd::id::md::rd::a70::wd::a72::Fd::Id::a75::a76::be::ce::ge::l) (n+80) v (a0::a::a2::a3::a4::a5::b::c::d::a9::e::f::a12::g::i::j::k::m::o::p::a20::a21::q::r::a24::s::t::u::a28::w::x::a31::y::z::A::B::C::a37::D::E::a40::F::G::H::K::L::a46::M::N::a49::P::a51::Q::a53::R::S::T::V::W::a59::X::Y::Z::gc::lc::rc::fd::id::md::rd::a70::wd::a72::Fd::Id::a75::a76::be::ce::ge::he):=by unfold hc at *;subst h;rfl
theorem bc {α:Type}{a0 a a2 a3 a4 a5 b c d a9 e f a12 g i j k m o p a20 a21 q r a24 s t u a28 w x a31 y z A B C a37 D E a40 F G H K L a46 M N a49 P a51 Q a53 R S T V W a59 X Y Z gc lc rc fd id md rd a70 wd a72 Fd Id a75 a76 be ce ge a80 he le ne Ne a85 of a87 wf If v:α}{l:List α}{n:Nat}(h:Xb l n v):Xb (a0::a::a2::a3::a4::a5::b::c::d::a9::e::f::a12::g::i::j::k::m::o::p::a20::a21::q::r::a24::s::t::u::a28::w::x::a31::y::z::A::B::C::a37::D::E::a40::F::G::H::K::L::a46::M::N::a49::P::a51::Q::a53::R::S::T::V::W::a59::X::Y::Z::gc::lc::rc::fd::id::md::rd::a70::wd::a72::Fd::Id::a75::a76::be::ce::ge::a80::he::le::ne::Ne::a85::of::a87::wf::If::l) (n+90) v:=h
theorem dc {α:Type}{a0 a a2 a3 a4 a5 b c d a9 e f a12 g i j k m o p a20 a21 q r a24 s t u a28 w x a31 y z A B C a37 D E a40 F G H K L a46 M N a49 P a51 Q a53 R S T V W a59 X Y Z gc lc rc fd id md rd a70 wd a72 Fd Id a75 a76 be ce ge a80 he le ne Ne a85 of a87 wf If v:α}{l dg:List α}{n:Nat}(h:hc l n v dg):hc (a0::a::a2::a3::a4::a5::b::c::d::a9::e::f::a12::g::i::j::k::m::o::p::a20::a21::q::r::a24::s::t::u::a28::w::x::a31::y::z::A::B::C::a37::D::E::a40::F::G::H::K::L::a46::M::N::a49::P::a51::Q::a53::R::S::T::V::W::a59::X::Y::Z::gc::lc::rc::fd::id::md::rd::a70::wd::a72::Fd::Id::a75::a76::be::ce::ge::a80::he::le::ne::Ne::a85::of::a87::wf::If::l) (n+90) v (a0::a::a2::a3::a4::a5::b::c::d::a9::e::f::a12::g::i::j::k::m::o::p::a20::a21::q::r::a24::s::t::u::a28::w::x::a31::y::z::A::B::C::a37::D::E::a40::F::G::H::K::L::a46::M::N::a49::P::a51::Q::a53::R::S::T::V::W::a59::X::Y::Z::gc::lc::rc::fd::id::md::rd::a70::wd::a72::Fd::Id::a75::a76::be::ce::ge::a80::he::le::ne::Ne::a85::of::a87::wf::If::dg):=by unfold hc at *;subst h;rfl
theorem hb {α:Type}{a0 a a2 a3 a4 a5 b c d a9 e f a12 g i j k m o p a20 a21 q r a24 s t u a28 w x a31 y z A B C a37 D E a40 F G H K L a46 M N a49 P a51 Q a53 R S T V W a59 X Y Z gc lc rc fd id md rd a70 wd a72 Fd Id a75 a76 be ce ge a80 he le ne Ne a85 of a87 wf If dg a91 rg a93 bi ci ii li pi Pi v:α}{l:List α}{n:Nat}(h:Xb l n v):Xb (a0::a::a2::a3::a4::a5::b::c::d::a9::e::f::a12::g::i::j::k::m::o::p::a20::a21::q::r::a24::s::t::u::a28::w::x::a31::y::z::A::B::C::a37::D::E::a40::F::G::H::K::L::a46::M::N::a49::P::a51::Q::a53::R::S::T::V::W::a59::X::Y::Z::gc::lc::rc::fd::id::md::rd::a70::wd::a72::Fd::Id::a75::a76::be::ce::ge::a80::he::le::ne::Ne::a85::of::a87::wf::If::dg::a91::rg::a93::bi::ci::ii::li::pi::Pi::l) (n+100) v:=h
theorem fb {α:Type}{a0 a a2 a3 a4 a5 b c d a9 e f a12 g i j k m o p a20 a21 q r a24 s t u a28 w x a31 y z A B C a37 D E a40 F G H K L a46 M N a49 P a51 Q a53 R S T V W a59 X Y Z gc lc rc fd id md rd a70 wd a72 Fd Id a75 a76 be ce ge a80 he le ne Ne a85 of a87 wf If dg a91 rg a93 bi ci ii li pi Pi v:α}{l kk:List α}{n:Nat}(h:hc l n v kk):hc (a0::a::a2::a3::a4::a5::b::c::d::a9::e::f::a12::g::i::j::k::m::o::p::a20::a21::q::r::a24::s::t::u::a28::w::x::a31::y::z::A::B::C::a37::D::E::a40::F::G::H::K::L::a46::M::N::a49::P::a51::Q::a53::R::S::T::V::W::a59::X::Y::Z::gc::lc::rc::fd::id::md::rd::a70::wd::a72::Fd::Id::a75::a76::be::ce::ge::a80::he::le::ne::Ne::a85::of::a87::wf::If::dg::a91::rg::a93::bi::ci::ii::li::pi::Pi::l) (n+100) v (a0::a::a2::a3::a4::a5::b::c::d::a9::e::f::a12::g::i::j::k::m::o::p::a20::a21::q::r::a24::s::t::u::a28::w::x::a31::y::z::A::B::C::a37::D::E::a40::F::G::H::K::L::a46::M::N::a49::P::a51::Q::a53::R::S::T::V::W::a59::X::Y::Z::gc::lc::rc::fd::id::md::rd::a70::wd::a72::Fd::Id::a75::a76::be::ce::ge::a80::he::le::ne::Ne::a85::of::a87::wf::If::dg::a91::rg::a93::bi::ci::ii::li::pi::Pi::kk):=by unfold hc at *;subst h;rfl
end Go.Sb
namespace Go.Sb
open Go.RowKit
section
variable {P:Program}{Q:Exit→Act→World→Prop}{K:List Value→List Deferred→World→Prop}{fr Va:List Value}{ds:List Deferred}{w:World}
variable {dst:Option Tmp}{ty:TypeId}{pos:String}{after:Array Edge}{g:Option (Nat×Bool)}
variable {S ld:Nat→Prop}{J:World}{rs mc:List wb}{A:World→Prop}
variable {T:TypeId}
inductive yj:TypeDesc→Value→Prop where
 | str (l:List UInt8):yj .string (Sb.S l)
 | int (k:IntKind) (n:Int):yj (.int k) (.int k n)
def oi:Value→Value→Bool
 | .string a,.string b=>decide (a.data.toList=b.data.toList)
 | .int _ a,.int _ b=>decide (a=b)
 | _,_=>false
def Nl (es:List MapEntry) (k:Value):Option (Nat×Value):=(es.zipIdx.find? fun e=>oi k e.1.key).map fun e=>(e.2,e.1.val)
theorem kA {d:TypeDesc}{k:Value}(a:yj d k):∀ (es:List MapEntry) (i:Nat),(∀ e ∈ es,yj d e.key)→Instr.findNow d k es i=some (((es.zipIdx i).find? fun e=>oi k e.1.key).map fun e=>(e.2,e.1.val)):=by
 intro es
 induction es with
 | nil=>intro i _; simp [Instr.findNow]
 | cons e es b =>
  intro i h;have he:=h e (by simp);have c:=b (i+1) fun x f=>h x (by simp [f]);simp only [Instr.findNow,List.zipIdx_cons,List.find?_cons];have g:Instr.sameNow d k e.key=some (oi k e.key):=by
   generalize e.key=j at he;cases a with
   | str l =>
    cases he with
    | str m =>
     simp only [Instr.sameNow,Sb.S,oi];congr 1;rw [Bool.eq_iff_iff,Fu];simp
   | int kk n =>
    cases he with
    | int _ o =>
     simp only [Instr.sameNow,if_true,oi];congr 1
  rw [g];cases p:oi k e.key with
  | true=>simp
  | false=>exact c
theorem run_findKey {Gf:TypeId}{d:TypeDesc}{k:Value}{es:List MapEntry}(a:P.underlying Gf=some d) (b:yj d k) (he:∀ e ∈ es,yj d e.key):(Instr.findKey Gf k es).run P w=.ok (Nl es k) w:=by
 unfold Instr.findKey Nl;simp only [Sem.run_bind,run_underlying a,Result.andThen_ok,kA b es 0 he];rfl
theorem run_checkKey {Gf:TypeId}{d:TypeDesc}{k:Value}{b:Bool}(a:P.underlying Gf=some d) (c:yj d k):(Instr.checkKey b 10000 Gf k).run P w=.ok () w:=by
 show (Instr.checkKey b (9999+1) Gf k).run P w=_;unfold Instr.checkKey;simp only [Sem.run_bind,run_underlying a,Result.andThen_ok];cases c<;>rfl
theorem kn (a:Sep S ld J w rs A) (h:∀ b w',w.heap.size≤b→Sep S ld J w' (.map b [] 0::rs) A→Jg fr dst (.map (some b)) fun Va=>K Va ds w'):xc P (Oper.mk dst (.makeMap T none) ty pos after g) fr ds w K Q:=by
 obtain ⟨Va,Ua⟩:=Fg fr dst (.map (some w.heap.size));refine Pe (v:=.map (some w.heap.size)) (w':=w.alloc (.map #[] 0)) ?_ Ua (h _ _ (Nat.le_refl _) (a.alloc rfl (heap_alloc_new w _)) Va Ua);simp [execOp,Instr.makeMap]
def uq (es:List MapEntry) (k z:Value):Value:=(Nl es k).elim z (·.2)
def putAt (es:List MapEntry) (c:Nat) (k v:Value):List MapEntry:=match Nl es k with
 | some (i,_)=>es.modify i fun e=>{ e with key:=k,val:=v }
 | none=>es++[{ key:=k,val:=v,born:=c }]
def cp (es:List MapEntry) (c:Nat) (k:Value):Nat:=match Nl es k with
 | some _=>c
 | none=>c+1
theorem lA {es:List MapEntry}{k v:Value}{i:Nat}(h:Nl es k=some (i,v)):∃ e,es[i]?=some e∧oi k e.key=true∧e.val=v:=by
 unfold Nl at h;cases a:es.zipIdx.find? fun e=>oi k e.1.key with
 | none=>rw [a] at h; cases h
 | some x =>
  rw [a] at h;simp only [Option.map_some,Option.some.injEq,Prod.mk.injEq] at h;obtain ⟨rfl,rfl⟩:=h;have b:=List.find?_some (p:=fun e:MapEntry×Nat=>oi k e.1.key) a;have c:=List.mem_of_find?_eq_some a;exact ⟨x.1,by have:=List.mem_zipIdx_iff_getElem?.1 c;simpa using this,b,rfl⟩
theorem SA {d:TypeDesc}{k a:Value}(c:yj d k) (b:yj d a) (h:oi k a=true):Instr.sameBits 10000 a k=true:=by
 cases c with
 | str l =>
  cases b with
  | str e =>
   simp [oi,Sb.S] at h;subst h;simp only [Instr.sameBits,Sb.S];exact (Fu _ _).2 rfl
 | int kk n =>
  cases b with
  | int _ f =>
   simp [oi] at h;subst h;simp [Instr.sameBits]
theorem ID {x y z:Operand}{Gf aa:TypeId}{d:TypeDesc}{ff v:Value}{b c k:Nat}{es:List MapEntry}(m:P.underlying T=some (.map Gf aa)) (n:P.underlying Gf=some d) (o:qb fr x (.map (some b))) (p:qb fr y ff) (a:yj d ff) (q:qb fr z v)
  (r:Sep S ld J w rs A) (s:Xb rs k (.map b es c)) (he:∀ e ∈ es,yj d e.key)
  (Ua:Wc fr dst undef Va) (h:∀ w' mc,hc rs k (.map b (putAt es c ff v) (cp es c ff)) mc→Sep S ld J w' mc A→K Va ds w'):xc P (Oper.mk dst (.mapUpdate T x y z) ty pos after g) fr ds w K Q:=by
 have f:w.heap[b]?=some (.map ⟨es⟩ c):=r.get s;have D:b<w.heap.size:=(Array.getElem?_eq_some_iff.1 f).1
 let w':World:={ w with heap:=w.heap.setIfInBounds b (.map ⟨putAt es c ff v⟩ (cp es c ff)) }
 have E:Qg (fun k=>k≠b) w w':=⟨rfl,rfl,rfl,by simp [w'],fun j _ F=>by simp [w',Array.getElem?_setIfInBounds,Ne.symm F]⟩;have G:=r.put (b:=b) (r':=.map b (putAt es c ff v) (cp es c ff)) (w':=w') s rfl rfl rfl (by show w'.heap[b]?=_;simp [w',D]) E;have t:=run_checkKey (P:=P) (w:=w) (b:=false) n a;have B:=run_findKey (P:=P) (w:=w) n a he;refine iz (w':=w') ?_ Ua (h w' _ rfl G);cases l:Nl es ff with
 | none=>simp [execOp,o ds,p ds,q ds,Instr.mapUpdate,run_underlying m,getObj,setObj,Sem.run,f,Result.andThen,t,B,l,w',putAt,cp]
 | some e =>
  obtain ⟨i,u⟩:=e;obtain ⟨e,C,H,-⟩:=lA l;have L:=SA a (he e (List.mem_of_getElem? C)) H;simp [execOp,o ds,p ds,q ds,Instr.mapUpdate,run_underlying m,getObj,setObj,Sem.run,f,Result.andThen,t,B,l,C,Instr.keyThatStays,L,w',putAt,cp]
theorem HB {x:Operand}{Gf aa:TypeId}{m c k:Nat}{es:List MapEntry}(d:P.underlying T=some (.map Gf aa)) (e:qb fr x (.map (some m))) (a:Sep S ld J w rs A) (f:Xb rs k (.map m es c))
  (h:∀ b w',w.heap.size≤b→Sep S ld J w' (.Xh b m c [] c::rs) A→Jg fr dst (.pointer (some ⟨b,0,none⟩)) fun Va=>K Va ds w'):xc P (Oper.mk dst (.range T x) ty pos after g) fr ds w K Q:=by
 have i:w.heap[m]?=some (.map ⟨es⟩ c):=a.get f;obtain ⟨Va,Ua⟩:=Fg fr dst (.pointer (some ⟨w.heap.size,0,none⟩));refine Pe (v:=.pointer (some ⟨w.heap.size,0,none⟩)) (w':=w.alloc (.mapIter (some m) c #[] c)) ?_ Ua (h _ _ (Nat.le_refl _) (a.alloc rfl (heap_alloc_new w _)) Va Ua);simp [execOp,e ds,Instr.range,run_underlying d,getObj,Sem.run,i,Result.andThen]
end
end Go.Sb
namespace Go.ec
open Go.Sb Go.RowKit
section
variable {P:Program}{Q:Exit→Act→World→Prop}{K:List Value→List Deferred→World→Prop}{fr Va:List Value}{ds:List Deferred}{w:World}
variable {dst:Option Tmp}{ty:TypeId}{pos:String}{after:Array Edge}{g:Option (Nat×Bool)}
variable {J:World}{rs mc:List wb}{μ U:M}
variable {T:TypeId}{d:TypeDesc}{xe:Bool}{Sc:List Value}{n m:Nat}
theorem FC {x y:Operand}{Gf aa:TypeId}{d:TypeDesc}{ff z:Value}{b c:Nat}{es:List MapEntry}(a:P.underlying T=some (.map Gf aa)) (f:P.underlying Gf=some d) (i:qb fr x (.map (some b))) (j:qb fr y ff) (k:yj d ff)
  (p:∀ w,(zeroValue aa).run P w=.ok z w) (l:w.heap[b]?=some (.map ⟨es⟩ c)) (he:∀ e ∈ es,yj d e.key)
  (q:Wc fr dst (uq es ff z) Va) (h:K Va ds w):xc P (Oper.mk dst (.lookup T x y false) ty pos after g) fr ds w K Q:=by
 refine Pe (w':=w) ?_ q h;have m:=run_checkKey (w:=w) (b:=es.isEmpty) f k;have n:=run_findKey (w:=w) f k he;cases o:Nl es ff with
 | none=>simp [execOp,i ds,j ds,Instr.lookup,run_underlying a,getObj,Sem.run,l,Result.andThen,m,n,o,p w,uq]
 | some e=>simp [execOp,i ds,j ds,Instr.lookup,run_underlying a,getObj,Sem.run,l,Result.andThen,m,n,o,uq]
class Db (κ:Type) [DecidableEq κ] where
 key:κ→Value
 bd:TypeDesc
 Gf:∀ k,yj bd (key k)
 eq:∀ a b,oi (key a) (key b)=decide (a=b)
instance:Db (List UInt8) where
 key:=S
 bd:=.string
 Gf:=.str
 eq a b:=by simp [oi,S]
instance:Db Int where
 key n:=.int .i64 n
 bd:=.int .i64
 Gf:=.int .i64
 eq a b:=by simp [oi]
class Oi (β:Type) where
 lk:M→Value→β→Prop
 up:∀ {μ U:M}{v:Value}{x:β},ra μ U→lk μ v x→lk U v x
instance:Oi Int where
 lk _ v x:=v=.int .i64 x
 up _ h:=h
instance:Oi (List UInt8) where
 lk _ v x:=v=S x
 up _ h:=h
def Ud {κ β:Type}[DecidableEq κ]:List (κ×β)→κ→Option β
 | [],_=>none
 | (a,b)::m,k=>if a=k then some b else Ud m k
def qc {κ β:Type}[DecidableEq κ]:List (κ×β)→κ→β→List (κ×β)
 | [],k,x=>[(k,x)]
 | (a,b)::m,k,x=>if a=k then (k,x)::m else (a,b)::qc m k x
def fe {κ β:Type}[DecidableEq κ] [Db κ] [Oi β] (μ:M):List MapEntry→List (κ×β)→Prop
 | [],m=>m=[]
 | e::es,m=>∃ k x t,m=(k,x)::t∧e.key=Db.key k∧Oi.lk μ e.val x∧fe μ es t
structure qf {κ β:Type}[DecidableEq κ] [Db κ] [Oi β] (μ:M) (es:List MapEntry) (c:Nat) (m:List (κ×β)):Prop where
 ff:fe μ es m
 lt:∀ e ∈ es,e.born<c
 inc:es.Pairwise fun a b=>a.born<b.born
variable {κ β:Type}[DecidableEq κ] [Db κ] [Oi β]
theorem fe.up (l:ra μ U):∀ {es:List MapEntry}{m:List (κ×β)},fe μ es m→fe U es m
 | [],m,h=>by rw [fe] at h ⊢; exact h
 | e::es,m,h=>by
  rw [fe] at h ⊢;obtain ⟨k,x,t,a,b,c,d⟩:=h;exact ⟨k,x,t,a,b,Oi.up l c,fe.up l d⟩
theorem qf.up {es:List MapEntry}{c:Nat}{m:List (κ×β)}(h:qf μ es c m) (l:ra μ U):qf U es c m:=⟨h.ff.up l,h.lt,h.inc⟩
theorem fe.keys:∀ {es:List MapEntry}{m:List (κ×β)},fe μ es m→∀ e ∈ es,yj (Db.bd (κ:=κ)) e.key
 | [],m,_,e,he=>by cases he
 | e::es,m,h,a,he=>by
  rw [fe] at h;obtain ⟨k,x,t,d,b,f,c⟩:=h;rcases List.mem_cons.1 he with rfl | he
  ·rw [b];exact Db.Gf k
  ·exact fe.keys c a he
def Dk (ff:Value):List MapEntry→Option (Nat×Value)
 | []=>none
 | e::es=>if oi ff e.key then some (0,e.val) else (Dk ff es).map fun p=>(p.1+1,p.2)
theorem Nx (ff:Value):∀ (es:List MapEntry) (i:Nat),(((es.zipIdx i).find? fun e=>oi ff e.1.key).map fun e=>(e.2,e.1.val))=(Dk ff es).map fun p=>(p.1+i,p.2)
 | [],i=>rfl
 | e::es,i=>by
  rw [List.zipIdx_cons,List.find?_cons,Dk];cases h:oi ff e.key with
  | true=>simp
  | false =>
   simp only [Bool.false_eq_true,if_false];rw [Nx ff es (i+1),Option.map_map];congr 1;funext p;simp;omega
theorem Sw (es:List MapEntry) (ff:Value):Nl es ff=Dk ff es:=by
 unfold Nl;rw [Nx];cases Dk ff es<;>simp
theorem fe.look:∀ {es:List MapEntry}{m:List (κ×β)},fe μ es m→∀ k:κ,(match Dk (Db.key k) es with | none=>Ud m k=none | some p=>∃ x,Ud m k=some x∧Oi.lk μ p.2 x)
 | [],m,h,k=>by rw [fe] at h; subst h; rfl
 | e::es,m,h,k=>by
  rw [fe] at h;obtain ⟨d,x,t,rfl,f,g,i⟩:=h;rw [Dk,Ud,f,Db.eq];have a:=fe.look i k;by_cases b:k=d
  ·subst b;simp;exact g
  ·rw [if_neg (by simpa using b),if_neg (fun e=>b e.symm)];cases c:Dk (Db.key k) es with
   | none=>rw [c] at a; exact a
   | some p=>rw [c] at a; exact a
theorem fe.get {es:List MapEntry}{m:List (κ×β)}(h:fe μ es m) (k:κ){z:Value}{zx:β}(b:Oi.lk μ z zx):Oi.lk μ (uq es (Db.key k) z) ((Ud m k).getD zx):=by
 have:=h.look k;unfold uq;rw [Sw];cases a:Dk (Db.key k) es with
 | none=>rw [a] at this; simp only at this; rw [this]; exact b
 | some p=>rw [a] at this; obtain ⟨x,c,d⟩:=this; rw [c]; exact d
theorem fe.put:∀ {es:List MapEntry}{m:List (κ×β)},fe μ es m→∀ (k:κ){v:Value}{x:β},Oi.lk μ v x→∀ c,fe μ (match Dk (Db.key k) es with | some (i,_)=>es.modify i fun e=>{ e with key:=Db.key k,val:=v } | none=>es++[{ key:=Db.key k,val:=v,born:=c }]) (qc m k x)
 | [],m,h,k,v,x,a,c=>by
  rw [fe] at h;subst h;exact ⟨k,x,[],rfl,rfl,a,rfl⟩
 | e::es,m,h,k,v,x,a,c=>by
  rw [fe] at h;obtain ⟨d,j,t,rfl,f,l,n⟩:=h;rw [Dk,qc,f,Db.eq];have b:=fe.put n k a c;by_cases g:k=d
  ·subst g;simp;exact ⟨k,x,t,rfl,rfl,a,n⟩
  ·rw [if_neg (by simpa using g),if_neg (fun e=>g e.symm)];cases o:Dk (Db.key k) es with
   | none=>rw [o] at b; exact ⟨d,j,_,rfl,f,l,b⟩
   | some p=>rw [o] at b; exact ⟨d,j,_,rfl,f,l,b⟩
theorem qf.put {es:List MapEntry}{c:Nat}{m:List (κ×β)}(h:qf μ es c m) (k:κ){v:Value}{x:β}(o:Oi.lk μ v x):qf μ (putAt es c (Db.key k) v) (cp es c (Db.key k)) (qc m k x):=by
 have d:=h.ff.put k o c;have ea:∀ i,(es.modify i fun e=>{ e with key:=Db.key k,val:=v }).map (·.born)=es.map (·.born):=by
  intro i;refine List.ext_getElem (by simp) fun j y z=>?_;simp only [List.getElem_map,List.getElem_modify];split<;>rfl
 have q:∀ l:List MapEntry,l.map (·.born)=es.map (·.born)→∀ e ∈ l,e.born<c:=fun l g e he=>by
  have hm:e.born ∈ es.map (·.born):=g ▸ List.mem_map_of_mem he;obtain ⟨r,s,f⟩:=List.mem_map.1 hm;rw [← f];exact h.lt r s
 have t:∀ l:List MapEntry,l.map (·.born)=es.map (·.born)→l.Pairwise fun a b=>a.born<b.born:=fun l g=>by
  have:(es.map (·.born)).Pairwise (·<·):=List.pairwise_map.2 h.inc;rw [← g] at this;exact List.pairwise_map.1 this
 unfold putAt cp;rw [Sw];cases n:Dk (Db.key k) es with
 | some p =>
  obtain ⟨i,u⟩:=p;rw [n] at d;exact ⟨d,q _ (ea i),t _ (ea i)⟩
 | none =>
  rw [n] at d;refine ⟨d,fun e he=>?_,?_⟩
  ·rcases List.mem_append.1 he with he | he
   ·exact Nat.lt_succ_of_lt (h.lt e he)
   ·simp at he;subst he;exact Nat.lt_succ_self _
  ·rw [List.pairwise_append];refine ⟨h.inc,by simp,fun a w b f=>?_⟩;simp at f;subst f;exact h.lt a w
theorem qf.nil {c:Nat}:qf (κ:=κ) (β:=β) μ [] c []:=⟨rfl,by simp,by simp⟩
def Yr (μ:M) (b:Nat) (m:List (κ×β)):Prop:=∃ es c,(∀ w,μ w→w.heap[b]?=some (.map ⟨es⟩ c))∧qf μ es c m
theorem Yr.up {b:Nat}{m:List (κ×β)}(h:Yr μ b m) (l:ra μ U):Yr U b m:=by
 obtain ⟨es,c,a,d⟩:=h;exact ⟨es,c,fun w hw=>a w (l w hw),d.up l⟩
theorem _root_.Go.Sb.Sep.rr {b c:Nat}{es:List MapEntry}{m:List (κ×β)}(h:Na μ J w (.map b es c::rs)) (hm:qf μ es c m):∃ U,ra μ U∧Yr U b m∧Na U J w rs :=
 ⟨_,fun _ hw=>hw.1,⟨es,c,fun _ hw=>hw.2,hm.up fun _ hw=>hw.1⟩,Sep.Yv (B:=fun w=>w.heap[b]?=some (.map ⟨es⟩ c)) h fun _ hw=>hw⟩
theorem hr {x y:Operand}{Gf aa:TypeId}{z:Value}{b c:Nat}{es:List MapEntry}{m:List (κ×β)}{k:κ}{zx:β}(a:P.underlying T=some (.map Gf aa)) (d:P.underlying Gf=some (Db.bd (κ:=κ))) (e:qb fr x (.map (some b))) (f:qb fr y (Db.key k))
  (i:∀ w,(zeroValue aa).run P w=.ok z w) (j:Oi.lk μ z zx) (l:w.heap[b]?=some (.map ⟨es⟩ c)) (he:qf μ es c m)
  (h:∀ v,Oi.lk μ v ((Ud m k).getD zx)→Jg fr dst v fun Va=>K Va ds w):xc P (Oper.mk dst (.lookup T x y false) ty pos after g) fr ds w K Q:=by
 obtain ⟨Va,Ua⟩:=Fg fr dst (uq es (Db.key k) z);refine FC a d e f (Db.Gf k) i l he.ff.keys Ua ?_;exact h _ (he.ff.get k j) Va Ua
theorem Xy {aa:TypeId}{z:Value}(h:(P.info? aa).map (fun i=>i.zero)=some (some z)):∀ w,(zeroValue aa).run P w=.ok z w:=fun w=>by
 cases a:P.info? aa with
 | none=>rw [a] at h; cases h
 | some i =>
  rw [a] at h;simp only [Option.map_some,Option.some.injEq] at h;simp [zeroValue,typeInfo,a,h]
theorem GC {x y z:Operand}{Gf aa:TypeId}{v:Value}{b c k:Nat}{es:List MapEntry}{kk:κ}{m:List (κ×β)}{xx:β}(e:P.underlying T=some (.map Gf aa)) (f:P.underlying Gf=some (Db.bd (κ:=κ))) (i:qb fr x (.map (some b))) (j:qb fr y (Db.key kk)) (l:qb fr z v) (n:Oi.lk μ v xx)
  (o:Na μ J w rs) (p:Xb rs k (.map b es c)) (he:qf μ es c m)
  (Ua:Wc fr dst undef Va) (h:∀ a d w' mc,qf μ a d (qc m kk xx)→hc rs k (.map b a d) mc→Na μ J w' mc→K Va ds w'):xc P (Oper.mk dst (.mapUpdate T x y z) ty pos after g) fr ds w K Q :=
 ID e f i j (Db.Gf kk) l o p he.ff.keys Ua fun w' mc=>h _ _ w' mc (he.put kk n)
theorem Dg {x y z:Operand}{Gf aa:TypeId}{v:Value}{b c k:Nat}{es:List MapEntry}{kk:κ}{m:List (κ×β)}{xx:β}(e:P.underlying T=some (.map Gf aa)) (f:P.underlying Gf=some (Db.bd (κ:=κ))) (i:qb fr x (.map (some b))) (j:qb fr y (Db.key kk)) (l:qb fr z v) (n:Oi.lk μ v xx)
  (o:Na μ J w rs) (p:Xb rs k (.map b es c)) (he:qf μ es c m)
  (Ua:Wc fr dst undef Va) (h:∀ a d w' mc,qf μ a d (qc m kk xx)→hc rs k (.map b a d) mc→Na μ J w' mc→K Va ds w'):xc P (Oper.mk dst (.insert T x y z) ty pos after g) fr ds w K Q :=
 ⟨fun q r=>(GC (dst:=dst) (ty:=ty) (pos:=pos) (after:=after) (g:=g) e f i j l n o p he Ua h).out q r⟩
end
end Go.ec
namespace Go.Sb
abbrev qi (m:List Db):List Db:=.k::m
abbrev Rd (s:Nat) (m:List Db):List Db:=.o s::m
theorem df {m:List Db}{a0:Value}{l a:List Value}(h:kd m l a):kd (qi m) (a0::l) (a0::a):=(.k h)
theorem sc {m:List Db}{s:Nat}{a0 b:Value}{l a:List Value}(h:kd m l a):kd (Rd s m) (a0::l) (b::a):=(.o h)
theorem ej {t:Nat→Value}{m:List Db}{a0:Value}{l a:List Value}(h:sd t m l a):sd t (qi m) (a0::l) (a0::a):=(mk h)
theorem ee {t:Nat→Value}{m:List Db}{s:Nat}{a0:Value}{l a:List Value}(h:sd t m l a):sd t (Rd s m) (a0::l) (t s::a):=(Pb h)
abbrev qg (m:List Db):List Db:=.k::.k::m
abbrev sg (s:Nat) (m:List Db):List Db:=.o s::.o (s+1)::m
theorem Ed {m:List Db}{a0 a:Value}{l b:List Value}(h:kd m l b):kd (qg m) (a0::a::l) (a0::a::b):=(.k (.k h))
theorem Gd {m:List Db}{s:Nat}{a0 b c ya:Value}{l a:List Value}(h:kd m l a):kd (sg s m) (a0::b::l) (c::ya::a):=(.o (.o h))
theorem Kg {t:Nat→Value}{m:List Db}{a0 a:Value}{l b:List Value}(h:sd t m l b):sd t (qg m) (a0::a::l) (a0::a::b):=(mk (mk h))
theorem Lg {t:Nat→Value}{m:List Db}{s:Nat}{a0 b:Value}{l a:List Value}(h:sd t m l a):sd t (sg s m) (a0::b::l) (t s::t (s+1)::a):=(Pb (Pb h))
abbrev ch (m:List Db):List Db:=.k::.k::.k::m
abbrev Mh (s:Nat) (m:List Db):List Db:=.o s::.o (s+1)::.o (s+2)::m
theorem me {m:List Db}{a0 a a2:Value}{l b:List Value}(h:kd m l b):kd (ch m) (a0::a::a2::l) (a0::a::a2::b):=(.k (.k (.k h)))
theorem ve {m:List Db}{s:Nat}{a0 b a2 c ya d:Value}{l a:List Value}(h:kd m l a):kd (Mh s m) (a0::b::a2::l) (c::ya::d::a):=(.o (.o (.o h)))
theorem Bh {t:Nat→Value}{m:List Db}{a0 a a2:Value}{l b:List Value}(h:sd t m l b):sd t (ch m) (a0::a::a2::l) (a0::a::a2::b):=(mk (mk (mk h)))
theorem ri {t:Nat→Value}{m:List Db}{s:Nat}{a0 b a2:Value}{l a:List Value}(h:sd t m l a):sd t (Mh s m) (a0::b::a2::l) (t s::t (s+1)::t (s+2)::a):=(Pb (Pb (Pb h)))
abbrev bg (m:List Db):List Db:=.k::.k::.k::.k::m
abbrev Aj (s:Nat) (m:List Db):List Db:=.o s::.o (s+1)::.o (s+2)::.o (s+3)::m
theorem yd {m:List Db}{a0 a a2 a3:Value}{l b:List Value}(h:kd m l b):kd (bg m) (a0::a::a2::a3::l) (a0::a::a2::a3::b):=(.k (.k (.k (.k h))))
theorem ig {m:List Db}{s:Nat}{a0 b a2 a3 c ya d e:Value}{l a:List Value}(h:kd m l a):kd (Aj s m) (a0::b::a2::a3::l) (c::ya::d::e::a):=(.o (.o (.o (.o h))))
theorem tg {t:Nat→Value}{m:List Db}{a0 a a2 a3:Value}{l b:List Value}(h:sd t m l b):sd t (bg m) (a0::a::a2::a3::l) (a0::a::a2::a3::b):=(mk (mk (mk (mk h))))
theorem Ek {t:Nat→Value}{m:List Db}{s:Nat}{a0 b a2 a3:Value}{l a:List Value}(h:sd t m l a):sd t (Aj s m) (a0::b::a2::a3::l) (t s::t (s+1)::t (s+2)::t (s+3)::a):=(Pb (Pb (Pb (Pb h))))
abbrev Zh (m:List Db):List Db:=.k::.k::.k::.k::.k::m
abbrev ek (s:Nat) (m:List Db):List Db:=.o s::.o (s+1)::.o (s+2)::.o (s+3)::.o (s+4)::m
theorem We {m:List Db}{a0 a a2 a3 a4:Value}{l b:List Value}(h:kd m l b):kd (Zh m) (a0::a::a2::a3::a4::l) (a0::a::a2::a3::a4::b):=(.k (.k (.k (.k (.k h)))))
theorem Ag {m:List Db}{s:Nat}{a0 b a2 a3 a4 c ya d e f:Value}{l a:List Value}(h:kd m l a):kd (ek s m) (a0::b::a2::a3::a4::l) (c::ya::d::e::f::a):=(.o (.o (.o (.o (.o h)))))
theorem Hi {t:Nat→Value}{m:List Db}{a0 a a2 a3 a4:Value}{l b:List Value}(h:sd t m l b):sd t (Zh m) (a0::a::a2::a3::a4::l) (a0::a::a2::a3::a4::b):=(mk (mk (mk (mk (mk h)))))
theorem ll {t:Nat→Value}{m:List Db}{s:Nat}{a0 b a2 a3 a4:Value}{l a:List Value}(h:sd t m l a):sd t (ek s m) (a0::b::a2::a3::a4::l) (t s::t (s+1)::t (s+2)::t (s+3)::t (s+4)::a):=(Pb (Pb (Pb (Pb (Pb h)))))
abbrev dh (m:List Db):List Db:=.k::.k::.k::.k::.k::.k::m
abbrev Cn (s:Nat) (m:List Db):List Db:=.o s::.o (s+1)::.o (s+2)::.o (s+3)::.o (s+4)::.o (s+5)::m
theorem Sd {m:List Db}{a0 a a2 a3 a4 a5:Value}{l b:List Value}(h:kd m l b):kd (dh m) (a0::a::a2::a3::a4::a5::l) (a0::a::a2::a3::a4::a5::b):=(.k (.k (.k (.k (.k (.k h))))))
theorem fk {m:List Db}{s:Nat}{a0 b a2 a3 a4 a5 c ya d e f g:Value}{l a:List Value}(h:kd m l a):kd (Cn s m) (a0::b::a2::a3::a4::a5::l) (c::ya::d::e::f::g::a):=(.o (.o (.o (.o (.o (.o h))))))
theorem Ch {t:Nat→Value}{m:List Db}{a0 a a2 a3 a4 a5:Value}{l b:List Value}(h:sd t m l b):sd t (dh m) (a0::a::a2::a3::a4::a5::l) (a0::a::a2::a3::a4::a5::b):=(mk (mk (mk (mk (mk (mk h))))))
theorem fp {t:Nat→Value}{m:List Db}{s:Nat}{a0 b a2 a3 a4 a5:Value}{l a:List Value}(h:sd t m l a):sd t (Cn s m) (a0::b::a2::a3::a4::a5::l) (t s::t (s+1)::t (s+2)::t (s+3)::t (s+4)::t (s+5)::a):=(Pb (Pb (Pb (Pb (Pb (Pb h))))))
abbrev gk (m:List Db):List Db:=.k::.k::.k::.k::.k::.k::.k::m
abbrev ml (s:Nat) (m:List Db):List Db:=.o s::.o (s+1)::.o (s+2)::.o (s+3)::.o (s+4)::.o (s+5)::.o (s+6)::m
theorem Pf {m:List Db}{a0 a a2 a3 a4 a5 b:Value}{l c:List Value}(h:kd m l c):kd (gk m) (a0::a::a2::a3::a4::a5::b::l) (a0::a::a2::a3::a4::a5::b::c):=(.k (.k (.k (.k (.k (.k (.k h)))))))
theorem eh {m:List Db}{s:Nat}{a0 b a2 a3 a4 a5 c d ya e f g i j:Value}{l a:List Value}(h:kd m l a):kd (ml s m) (a0::b::a2::a3::a4::a5::c::l) (d::ya::e::f::g::i::j::a):=(.o (.o (.o (.o (.o (.o (.o h)))))))
theorem ql {t:Nat→Value}{m:List Db}{a0 a a2 a3 a4 a5 b:Value}{l c:List Value}(h:sd t m l c):sd t (gk m) (a0::a::a2::a3::a4::a5::b::l) (a0::a::a2::a3::a4::a5::b::c):=(mk (mk (mk (mk (mk (mk (mk h)))))))
theorem Qm {t:Nat→Value}{m:List Db}{s:Nat}{a0 b a2 a3 a4 a5 c:Value}{l a:List Value}(h:sd t m l a):sd t (ml s m) (a0::b::a2::a3::a4::a5::c::l) (t s::t (s+1)::t (s+2)::t (s+3)::t (s+4)::t (s+5)::t (s+6)::a):=(Pb (Pb (Pb (Pb (Pb (Pb (Pb h)))))))
abbrev ai (m:List Db):List Db:=.k::.k::.k::.k::.k::.k::.k::.k::m
abbrev Ii (s:Nat) (m:List Db):List Db:=.o s::.o (s+1)::.o (s+2)::.o (s+3)::.o (s+4)::.o (s+5)::.o (s+6)::.o (s+7)::m
theorem kf {m:List Db}{a0 a a2 a3 a4 a5 b c:Value}{l d:List Value}(h:kd m l d):kd (ai m) (a0::a::a2::a3::a4::a5::b::c::l) (a0::a::a2::a3::a4::a5::b::c::d):=(.k (.k (.k (.k (.k (.k (.k (.k h))))))))
theorem jg {m:List Db}{s:Nat}{a0 b a2 a3 a4 a5 c d e ya f g i j k n:Value}{l a:List Value}(h:kd m l a):kd (Ii s m) (a0::b::a2::a3::a4::a5::c::d::l) (e::ya::f::g::i::j::k::n::a):=(.o (.o (.o (.o (.o (.o (.o (.o h))))))))
theorem Ji {t:Nat→Value}{m:List Db}{a0 a a2 a3 a4 a5 b c:Value}{l d:List Value}(h:sd t m l d):sd t (ai m) (a0::a::a2::a3::a4::a5::b::c::l) (a0::a::a2::a3::a4::a5::b::c::d):=(mk (mk (mk (mk (mk (mk (mk (mk h))))))))
theorem Bj {t:Nat→Value}{m:List Db}{s:Nat}{a0 b a2 a3 a4 a5 c d:Value}{l a:List Value}(h:sd t m l a):sd t (Ii s m) (a0::b::a2::a3::a4::a5::c::d::l) (t s::t (s+1)::t (s+2)::t (s+3)::t (s+4)::t (s+5)::t (s+6)::t (s+7)::a):=(Pb (Pb (Pb (Pb (Pb (Pb (Pb (Pb h))))))))
abbrev rl (m:List Db):List Db:=.k::.k::.k::.k::.k::.k::.k::.k::.k::m
abbrev sl (s:Nat) (m:List Db):List Db:=.o s::.o (s+1)::.o (s+2)::.o (s+3)::.o (s+4)::.o (s+5)::.o (s+6)::.o (s+7)::.o (s+8)::m
theorem fh {m:List Db}{a0 a a2 a3 a4 a5 b c d:Value}{l e:List Value}(h:kd m l e):kd (rl m) (a0::a::a2::a3::a4::a5::b::c::d::l) (a0::a::a2::a3::a4::a5::b::c::d::e):=(.k (.k (.k (.k (.k (.k (.k (.k (.k h)))))))))
theorem Qf {m:List Db}{s:Nat}{a0 b a2 a3 a4 a5 c d e f ya g i j k n p q:Value}{l a:List Value}(h:kd m l a):kd (sl s m) (a0::b::a2::a3::a4::a5::c::d::e::l) (f::ya::g::i::j::k::n::p::q::a):=(.o (.o (.o (.o (.o (.o (.o (.o (.o h)))))))))
theorem Rm {t:Nat→Value}{m:List Db}{a0 a a2 a3 a4 a5 b c d:Value}{l e:List Value}(h:sd t m l e):sd t (rl m) (a0::a::a2::a3::a4::a5::b::c::d::l) (a0::a::a2::a3::a4::a5::b::c::d::e):=(mk (mk (mk (mk (mk (mk (mk (mk (mk h)))))))))
theorem Sm {t:Nat→Value}{m:List Db}{s:Nat}{a0 b a2 a3 a4 a5 c d e:Value}{l a:List Value}(h:sd t m l a):sd t (sl s m) (a0::b::a2::a3::a4::a5::c::d::e::l) (t s::t (s+1)::t (s+2)::t (s+3)::t (s+4)::t (s+5)::t (s+6)::t (s+7)::t (s+8)::a):=(Pb (Pb (Pb (Pb (Pb (Pb (Pb (Pb (Pb h)))))))))
abbrev ke (m:List Db):List Db:=.k::.k::.k::.k::.k::.k::.k::.k::.k::.k::m
abbrev Md (s:Nat) (m:List Db):List Db:=.o s::.o (s+1)::.o (s+2)::.o (s+3)::.o (s+4)::.o (s+5)::.o (s+6)::.o (s+7)::.o (s+8)::.o (s+9)::m
theorem nc {m:List Db}{a0 a a2 a3 a4 a5 b c d a9:Value}{l e:List Value}(h:kd m l e):kd (ke m) (a0::a::a2::a3::a4::a5::b::c::d::a9::l) (a0::a::a2::a3::a4::a5::b::c::d::a9::e):=(.k (.k (.k (.k (.k (.k (.k (.k (.k (.k h))))))))))
theorem cc {m:List Db}{s:Nat}{a0 b a2 a3 a4 a5 c d e a9 f ya g i j k n p q r:Value}{l a:List Value}(h:kd m l a):kd (Md s m) (a0::b::a2::a3::a4::a5::c::d::e::a9::l) (f::ya::g::i::j::k::n::p::q::r::a):=(.o (.o (.o (.o (.o (.o (.o (.o (.o (.o h))))))))))
theorem qe {t:Nat→Value}{m:List Db}{a0 a a2 a3 a4 a5 b c d a9:Value}{l e:List Value}(h:sd t m l e):sd t (ke m) (a0::a::a2::a3::a4::a5::b::c::d::a9::l) (a0::a::a2::a3::a4::a5::b::c::d::a9::e):=(mk (mk (mk (mk (mk (mk (mk (mk (mk (mk h))))))))))
theorem Od {t:Nat→Value}{m:List Db}{s:Nat}{a0 b a2 a3 a4 a5 c d e a9:Value}{l a:List Value}(h:sd t m l a):sd t (Md s m) (a0::b::a2::a3::a4::a5::c::d::e::a9::l) (t s::t (s+1)::t (s+2)::t (s+3)::t (s+4)::t (s+5)::t (s+6)::t (s+7)::t (s+8)::t (s+9)::a):=(Pb (Pb (Pb (Pb (Pb (Pb (Pb (Pb (Pb (Pb h))))))))))
abbrev ed (m:List Db):List Db:=.k::.k::.k::.k::.k::.k::.k::.k::.k::.k::.k::.k::.k::.k::.k::.k::.k::.k::.k::.k::m
abbrev sh (s:Nat) (m:List Db):List Db:=.o s::.o (s+1)::.o (s+2)::.o (s+3)::.o (s+4)::.o (s+5)::.o (s+6)::.o (s+7)::.o (s+8)::.o (s+9)::.o (s+10)::.o (s+11)::.o (s+12)::.o (s+13)::.o (s+14)::.o (s+15)::.o (s+16)::.o (s+17)::.o (s+18)::.o (s+19)::m
theorem Kb {m:List Db}{a0 a a2 a3 a4 a5 b c d a9 e f a12 g i j n o p q:Value}{l r:List Value}(h:kd m l r):kd (ed m) (a0::a::a2::a3::a4::a5::b::c::d::a9::e::f::a12::g::i::j::n::o::p::q::l) (a0::a::a2::a3::a4::a5::b::c::d::a9::e::f::a12::g::i::j::n::o::p::q::r):=(.k (.k (.k (.k (.k (.k (.k (.k (.k (.k (.k (.k (.k (.k (.k (.k (.k (.k (.k (.k h))))))))))))))))))))
theorem cd {m:List Db}{s:Nat}{a0 b a2 a3 a4 a5 c d e a9 f g a12 i j k n p q r t ya u v w x y z A B C D E F G H K L M N:Value}{l a:List Value}(h:kd m l a):kd (sh s m) (a0::b::a2::a3::a4::a5::c::d::e::a9::f::g::a12::i::j::k::n::p::q::r::l) (t::ya::u::v::w::x::y::z::A::B::C::D::E::F::G::H::K::L::M::N::a):=(.o (.o (.o (.o (.o (.o (.o (.o (.o (.o (.o (.o (.o (.o (.o (.o (.o (.o (.o (.o h))))))))))))))))))))
theorem jd {t:Nat→Value}{m:List Db}{a0 a a2 a3 a4 a5 b c d a9 e f a12 g i j k n o p:Value}{l q:List Value}(h:sd t m l q):sd t (ed m) (a0::a::a2::a3::a4::a5::b::c::d::a9::e::f::a12::g::i::j::k::n::o::p::l) (a0::a::a2::a3::a4::a5::b::c::d::a9::e::f::a12::g::i::j::k::n::o::p::q):=(mk (mk (mk (mk (mk (mk (mk (mk (mk (mk (mk (mk (mk (mk (mk (mk (mk (mk (mk (mk h))))))))))))))))))))
theorem Lh {t:Nat→Value}{m:List Db}{s:Nat}{a0 b a2 a3 a4 a5 c d e a9 f g a12 i j k n o p q:Value}{l a:List Value}(h:sd t m l a):sd t (sh s m) (a0::b::a2::a3::a4::a5::c::d::e::a9::f::g::a12::i::j::k::n::o::p::q::l) (t s::t (s+1)::t (s+2)::t (s+3)::t (s+4)::t (s+5)::t (s+6)::t (s+7)::t (s+8)::t (s+9)::t (s+10)::t (s+11)::t (s+12)::t (s+13)::t (s+14)::t (s+15)::t (s+16)::t (s+17)::t (s+18)::t (s+19)::a):=(Pb (Pb (Pb (Pb (Pb (Pb (Pb (Pb (Pb (Pb (Pb (Pb (Pb (Pb (Pb (Pb (Pb (Pb (Pb (Pb h))))))))))))))))))))
abbrev Ah (m:List Db):List Db:=.k::.k::.k::.k::.k::.k::.k::.k::.k::.k::.k::.k::.k::.k::.k::.k::.k::.k::.k::.k::.k::.k::.k::.k::.k::.k::.k::.k::.k::.k::.k::.k::.k::.k::.k::.k::.k::.k::.k::.k::.k::.k::.k::.k::.k::.k::.k::.k::.k::.k::m
abbrev Ql (s:Nat) (m:List Db):List Db:=.o s::.o (s+1)::.o (s+2)::.o (s+3)::.o (s+4)::.o (s+5)::.o (s+6)::.o (s+7)::.o (s+8)::.o (s+9)::.o (s+10)::.o (s+11)::.o (s+12)::.o (s+13)::.o (s+14)::.o (s+15)::.o (s+16)::.o (s+17)::.o (s+18)::.o (s+19)::.o (s+20)::.o (s+21)::.o (s+22)::.o (s+23)::.o (s+24)::.o (s+25)::.o (s+26)::.o (s+27)::.o (s+28)::.o (s+29)::.o (s+30)::.o (s+31)::.o (s+32)::.o (s+33)::.o (s+34)::.o (s+35)::.o (s+36)::.o (s+37)::.o (s+38)::.o (s+39)::.o (s+40)::.o (s+41)::.o (s+42)::.o (s+43)::.o (s+44)::.o (s+45)::.o (s+46)::.o (s+47)::.o (s+48)::.o (s+49)::m
theorem Ge {m:List Db}{a0 a a2 a3 a4 a5 b c d a9 e f a12 g i j n o p q a20 a21 r s a24 t u v a28 w x a31 y z A B C a37 D E a40 F G H K L a46 M N a49:Value}{l P:List Value}(h:kd m l P):kd (Ah m) (a0::a::a2::a3::a4::a5::b::c::d::a9::e::f::a12::g::i::j::n::o::p::q::a20::a21::r::s::a24::t::u::v::a28::w::x::a31::y::z::A::B::C::a37::D::E::a40::F::G::H::K::L::a46::M::N::a49::l) (a0::a::a2::a3::a4::a5::b::c::d::a9::e::f::a12::g::i::j::n::o::p::q::a20::a21::r::s::a24::t::u::v::a28::w::x::a31::y::z::A::B::C::a37::D::E::a40::F::G::H::K::L::a46::M::N::a49::P):=(.k (.k (.k (.k (.k (.k (.k (.k (.k (.k (.k (.k (.k (.k (.k (.k (.k (.k (.k (.k (.k (.k (.k (.k (.k (.k (.k (.k (.k (.k (.k (.k (.k (.k (.k (.k (.k (.k (.k (.k (.k (.k (.k (.k (.k (.k (.k (.k (.k (.k h))))))))))))))))))))))))))))))))))))))))))))))))))
theorem hg {m:List Db}{s:Nat}{a0 b a2 a3 a4 a5 c d e a9 f g a12 i j k n p q r a20 a21 t u a24 v w x a28 y z a31 A B C D E a37 F G a40 H K L M N a46 P Q a49 R ya S T V W X Y Z gc lc rc fd id md rd wd Fd Id be ce ge he le ne Ne of wf If dg rg bi ci ii li pi Pi kk mk ok dl el nl ol pl ul wl am em hm:Value}{l a:List Value}(h:kd m l a):kd (Ql s m) (a0::b::a2::a3::a4::a5::c::d::e::a9::f::g::a12::i::j::k::n::p::q::r::a20::a21::t::u::a24::v::w::x::a28::y::z::a31::A::B::C::D::E::a37::F::G::a40::H::K::L::M::N::a46::P::Q::a49::l) (R::ya::S::T::V::W::X::Y::Z::gc::lc::rc::fd::id::md::rd::wd::Fd::Id::be::ce::ge::he::le::ne::Ne::of::wf::If::dg::rg::bi::ci::ii::li::pi::Pi::kk::mk::ok::dl::el::nl::ol::pl::ul::wl::am::em::hm::a):=(.o (.o (.o (.o (.o (.o (.o (.o (.o (.o (.o (.o (.o (.o (.o (.o (.o (.o (.o (.o (.o (.o (.o (.o (.o (.o (.o (.o (.o (.o (.o (.o (.o (.o (.o (.o (.o (.o (.o (.o (.o (.o (.o (.o (.o (.o (.o (.o (.o (.o h))))))))))))))))))))))))))))))))))))))))))))))))))
theorem Wh {t:Nat→Value}{m:List Db}{a0 a a2 a3 a4 a5 b c d a9 e f a12 g i j k n o p a20 a21 q r a24 s u v a28 w x a31 y z A B C a37 D E a40 F G H K L a46 M N a49:Value}{l P:List Value}(h:sd t m l P):sd t (Ah m) (a0::a::a2::a3::a4::a5::b::c::d::a9::e::f::a12::g::i::j::k::n::o::p::a20::a21::q::r::a24::s::u::v::a28::w::x::a31::y::z::A::B::C::a37::D::E::a40::F::G::H::K::L::a46::M::N::a49::l) (a0::a::a2::a3::a4::a5::b::c::d::a9::e::f::a12::g::i::j::k::n::o::p::a20::a21::q::r::a24::s::u::v::a28::w::x::a31::y::z::A::B::C::a37::D::E::a40::F::G::H::K::L::a46::M::N::a49::P):=(mk (mk (mk (mk (mk (mk (mk (mk (mk (mk (mk (mk (mk (mk (mk (mk (mk (mk (mk (mk (mk (mk (mk (mk (mk (mk (mk (mk (mk (mk (mk (mk (mk (mk (mk (mk (mk (mk (mk (mk (mk (mk (mk (mk (mk (mk (mk (mk (mk (mk h))))))))))))))))))))))))))))))))))))))))))))))))))
theorem zn {t:Nat→Value}{m:List Db}{s:Nat}{a0 b a2 a3 a4 a5 c d e a9 f g a12 i j k n o p q a20 a21 r u a24 v w x a28 y z a31 A B C D E a37 F G a40 H K L M N a46 P Q a49:Value}{l a:List Value}(h:sd t m l a):sd t (Ql s m) (a0::b::a2::a3::a4::a5::c::d::e::a9::f::g::a12::i::j::k::n::o::p::q::a20::a21::r::u::a24::v::w::x::a28::y::z::a31::A::B::C::D::E::a37::F::G::a40::H::K::L::M::N::a46::P::Q::a49::l) (t s::t (s+1)::t (s+2)::t (s+3)::t (s+4)::t (s+5)::t (s+6)::t (s+7)::t (s+8)::t (s+9)::t (s+10)::t (s+11)::t (s+12)::t (s+13)::t (s+14)::t (s+15)::t (s+16)::t (s+17)::t (s+18)::t (s+19)::t (s+20)::t (s+21)::t (s+22)::t (s+23)::t (s+24)::t (s+25)::t (s+26)::t (s+27)::t (s+28)::t (s+29)::t (s+30)::t (s+31)::t (s+32)::t (s+33)::t (s+34)::t (s+35)::t (s+36)::t (s+37)::t (s+38)::t (s+39)::t (s+40)::t (s+41)::t (s+42)::t (s+43)::t (s+44)::t (s+45)::t (s+46)::t (s+47)::t (s+48)::t (s+49)::a):=(Pb (Pb (Pb (Pb (Pb (Pb (Pb (Pb (Pb (Pb (Pb (Pb (Pb (Pb (Pb (Pb (Pb (Pb (Pb (Pb (Pb (Pb (Pb (Pb (Pb (Pb (Pb (Pb (Pb (Pb (Pb (Pb (Pb (Pb (Pb (Pb (Pb (Pb (Pb (Pb (Pb (Pb (Pb (Pb (Pb (Pb (Pb (Pb (Pb (Pb h))))))))))))))))))))))))))))))))))))))))))))))))))
theorem ub {m:List Db}{v a:Value}{l b:List Value}(h:kd m l b):kd (.i v::m) (a::l) (v::b):=.i h
theorem gb {l:List Value}:kd [] l l:=.z
end Go.Sb
namespace Go.Sb
open Go.RowKit
section
variable {P:Program}{Q:Exit→Act→World→Prop}{ops:Array Oper}{fr Va:List Value}{ds:List Deferred}{w:World}
theorem ku (ops:Array Oper) (fr:List Value) (ds:List Deferred) (j:Nat):yielded ops (F fr ds).tmps j=match (ops[j]?).bind (·.dst) with | some s=>(match (F fr ds).eval (.tmp s) with | .bool b=>some b | _=>none) | none=>none:=by
 unfold yielded;cases h:(ops[j]?).bind (·.dst) with
 | none=>simp
 | some s =>
  simp only [Option.bind_some,F,Act.eval];cases a:(⟨fr⟩:Array Value)[s]? with
  | none =>
   have:(⟨fr⟩:Array Value).getD s undef=undef:=by simp [Array.getD_eq_getD_getElem?,a]
   first
    | (simp [a,undef]; done)
    | (rw [this]; simp [undef])
  | some v =>
   have:(⟨fr⟩:Array Value).getD s undef=v:=by simp [Array.getD_eq_getD_getElem?,a]
   first
    | (simp [a]; done)
    | (rw [this]; cases v <;> rfl)
theorem wanted_put {o p:Oper}{fr:List Value}{ds ds':List Deferred}{g:List Value→List Value}(g3:∀ (y:Operand),(∀ e,p.dst=some e→Mo y≠some e)→(F (g fr) ds).eval y=(F fr ds).eval y) (c:∀ e,p.dst=some e→(reads ops o).contains e=false) :
  Region.wanted o (yielded ops (F (g fr) ds').tmps)=Region.wanted o (yielded ops (F fr ds').tmps):=by
 have ta:(F (g fr) ds').tmps=(F (g fr) ds).tmps:=rfl;have ea:(F fr ds').tmps=(F fr ds).tmps:=rfl;rw [ta,ea];unfold Region.wanted;cases d:o.guard with
 | none=>rfl
 | some f =>
  obtain ⟨j,b⟩:=f;simp only;have:yielded ops (F (g fr) ds).tmps j=yielded ops (F fr ds).tmps j:=by
   rw [ku,ku];cases h:(ops[j]?).bind (·.dst) with
   | none=>rfl
   | some s =>
    simp only;rw [g3 (.tmp s) fun e he a=>by
     simp [Mo] at a;subst a;have:=c s he;unfold reads at this;rw [d] at this;simp [h] at this]
  first
   | rw [this]
   | simp [this]
theorem px {o:Oper}{j d:Nat}{b a:Bool}(c:o.guard=some (j,b)) (e:(ops[j]?).bind (·.dst)=some d) (f:Xb fr d (.bool a)):Region.wanted o (yielded ops (F fr ds).tmps)=(a == b):=by
 unfold Region.wanted;rw [c];simp only;have:yielded ops (F fr ds).tmps j=some a:=by
  rw [ku,e];simp only;rw [aa f ds]
 rw [this];cases b<;>cases a<;>rfl
theorem Vc {o:Oper}(a:o.guard=none):Region.wanted o (yielded ops (F fr ds).tmps)=true:=by simp [Region.wanted,a]
theorem Zq {o:Oper}{j d:Nat}{b:Bool}(a:o.guard=some (j,b)) (c:(ops[j]?).bind (·.dst)=some d) (e:Xb fr d (.bool b)):Region.wanted o (yielded ops (F fr ds).tmps)=true :=
 (px a c e).trans (by cases b<;>rfl)
end
end Go.Sb
namespace Go.Sb
open Go.RowKit
section
variable {P:Program}{Q:Exit→Act→World→Prop}{ops:Array Oper}{fr Va:List Value}{ds:List Deferred}{w:World}
def waits (ops:Array Oper) (R S:List Nat) (i:Nat):Bool:=S.all fun j=>j == i || S.any fun k=>(jl ops j).contains k && R.contains k
theorem zk.later {R c:List Nat}(h:zk ops R c) (l:R.Nodup){i:Nat}{S:List Nat}(m:∀ j ∈ S,j=i∨∃ k ∈ S,k ∈ jl ops j∧k ∈ R):∀ l1 b,c=l1++i::b→i ∉ l1→∀ j ∈ l1,j ∉ S:=by
 induction h with
 | z=>intro l1 b h; simp at h
 | @s R c k o t p =>
  intro l1 b h n j a;cases l1 with
  | nil=>cases a
  | cons e l1 =>
   simp only [List.cons_append,List.cons.injEq] at h;obtain ⟨rfl,h⟩:=h;have he:k ∉ S:=fun hm=>by
    rcases m k hm with rfl | ⟨q,d,f,g⟩
    ·exact n (by simp)
    ·exact qw o f g
   rcases List.mem_cons.1 a with rfl | a
   ·exact he
   ·refine p (l.erase k) (fun j a=>?_) l1 b h (fun hm=>n (by simp [hm])) j a;rcases m j a with rfl | ⟨q,d,f,g⟩
    ·exact .inl rfl
    ·exact .inr ⟨q,d,f,(l.mem_erase_iff).2 ⟨fun e=>he (e ▸ d),g⟩⟩
end
end Go.Sb
namespace Go.Sb
open Go.RowKit
section
variable {P:Program}{Q:Exit→Act→World→Prop}{K:List Value→List Deferred→World→Prop}{fr Va:List Value}{ds:List Deferred}{w:World}
variable {dst:Option Tmp}{ty:TypeId}{pos:String}{after:Array Edge}{g:Option (Nat×Bool)}
variable {S ld:Nat→Prop}{J:World}{rs mc:List wb}{A:World→Prop}
variable {T:TypeId}{d:TypeDesc}{xe:Bool}{Sc:List Value}{n m:Nat}
inductive lq (fr:List Value) (n:Nat):Nat→List (Nat×Operand)→List Value→Prop where
 | z {i:Nat}:lq fr n i [] []
 | s {i:Nat} {x:Operand} {v:Value} {cs rest:List Value} {xs:List (Nat×Operand)} (a:qb fr x v) (b:v.cells=⟨cs⟩) (c:cs.length=n) (t:lq fr n (i+1) xs rest):lq fr n i ((i,x)::xs) (cs++rest)
theorem lq.fill {i:Nat}{xs:List (Nat×Operand)}{cells:List Value}(h:lq fr n i xs cells):∀ a:List Value,a.length=i*n+cells.length →
  Instr.fill (fun i=>some (i*n,n)) ⟨a⟩ (xs.map fun p=>(p.1,(F fr ds).eval p.2))=some ⟨a.take (i*n)++cells⟩:=by
 induction h with
 | z=>intro a b; simp at b; simp [Instr.fill,← b]
 | @s i x v cs rest xs e f c t g =>
  intro a b;simp only [List.length_append] at b;have e2:(i+1)*n=i*n+n:=by rw [Nat.add_mul,Nat.one_mul]
  simp only [List.map_cons,Instr.fill,e ds,f];have ta:¬ (((⟨cs⟩:Array Value).size≠n || i*n+(⟨cs⟩:Array Value).size > (⟨a⟩:Array Value).size)=true):=by simp [c,b]
  rw [if_neg ta];have j:=fs cs (i*n) 0 a (by omega);have ea:(⟨cs⟩:Array Value).zipIdx.toList=cs.zipIdx 0:=by simp
  have d:(⟨cs⟩:Array Value).zipIdx.foldl (fun (cs:Array Value) (p:Value×Nat)=>cs.setIfInBounds (i*n+p.2) p.1) ⟨a⟩=⟨a.take (i*n+0)++cs++a.drop (i*n+0+cs.length)⟩:=by
   rw [← Array.foldl_toList,ea];exact j
  first
   | rw [d]
   | (erw [d])
  rw [g _ (by simp [e2,c,b];omega)];congr 2;rw [e2,c,Nat.add_zero];have:(a.take (i*n)++cs).length=i*n+n:=by simp [c];omega
  rw [← this,List.take_left,List.append_assoc]
theorem uy {e:TypeId}{len:Nat}{xs:List (Nat×Operand)}{cells:List Value}(f:P.underlying T=some (.slice e)) (c:ad P e xe Sc n m) (a:(decide (0<n) && decide (n≤1000) && decide (0<len) && decide (len≤1000))=true) (j:lq fr n 0 xs cells) (k:cells.length=len*n) (l:Sep S ld J w rs A)
  (h:∀ b w',w.heap.size≤b→Sep S ld J w' (.na b e cells::rs) A→Jg fr dst (.slice (some ⟨b,0,none⟩) len len) fun Va=>K Va ds w'):xc P (Oper.mk dst (.buildSlice T len ⟨xs⟩) ty pos after g) fr ds w K Q:=by
 obtain ⟨Va,Ua⟩:=Fg fr dst (.slice (some ⟨w.heap.size,0,none⟩) len len);refine Pe (v:=.slice (some ⟨w.heap.size,0,none⟩) len len) (w':=w.alloc (.cells ⟨cells⟩ e)) ?_ Ua (h _ _ (Nat.le_refl _) (l.alloc rfl (heap_alloc_new w _)) Va Ua);obtain ⟨z,o,y⟩:=c.zero (w:=w);have q:=c.sizeOf (w:=w);simp only [Bool.and_eq_true,decide_eq_true_eq] at a;have hmul:len*n≤1000*1000:=Nat.mul_le_mul a.2 a.1.1.2;have r:¬ (len*n > 2 ^ 24):=by omega
 have s:¬ (len*n=0):=by
  have:=Nat.mul_pos a.1.2 a.1.1.1;omega
 have t:((⟨xs⟩:Array (Nat×Operand)).map fun (i,x)=>(i,(F fr ds).eval x)).toList=xs.map fun p=>(p.1,(F fr ds).eval p.2):=by simp
 have d:=j.fill (ds:=ds) ((Array.range (len*n)).map (z.cells[· % z.cells.size]!)).toList (by simp [k]);simp only [execOp,Instr.buildSlice,Sem.run_bind,run_underlying f,Result.andThen_ok,q,if_neg r,if_neg s,o,Sem.run_pure,t];have u:(⟨((Array.range (len*n)).map (z.cells[· % z.cells.size]!)).toList⟩:Array Value)=(Array.range (len*n)).map (z.cells[· % z.cells.size]!):=rfl;rw [u] at d;simp only [d];simp [newRow]
structure Zr (P:Program) (c:Code) (Q:Exit→Act→World→Prop) (n:Nat) (fr:List Value) (ds:List Deferred) (w:World):Prop where
 out:Code.rounds P c Q n (F fr ds) w
theorem HC {c:Code}(n:Nat) (h:Zr P c Q n fr ds w):Td P (.loop c) Q fr ds w:=⟨wp_loop_rounds n h.out⟩
theorem Mr {c:Code}{n:Nat}(h:Td P c (Exit.then (fun a w=>∃ fr ds,a=F fr ds∧Zr P c Q n fr ds w) Q) fr ds w):Zr P c Q (n+1) fr ds w:=⟨by
 rw [rounds_succ];refine wp_mono h.out fun e a w b=>?_;cases e with
 | normal=>obtain ⟨fr,ds,rfl,h⟩:=b; exact h.out
 | exit id=>exact b
 | goto l=>exact b
 | ret=>exact b
 | panic d=>exact b
 | outgrown=>exact b⟩
theorem Tt {c:Code}{n:Nat}(h:Zr P c Q n fr ds w):Exit.then (fun a w=>∃ fr ds,a=F fr ds∧Zr P c Q n fr ds w) Q .normal (F fr ds) w:=⟨_,_,rfl,h⟩
end
end Go.Sb
namespace Go.ec
open Go.Sb Go.RowKit
section
variable {P:Program}{Q:Exit→Act→World→Prop}{K:List Value→List Deferred→World→Prop}{fr Va:List Value}{ds:List Deferred}{w:World}
variable {dst:Option Tmp}{ty:TypeId}{pos:String}{after:Array Edge}{g:Option (Nat×Bool)}
variable {J:World}{rs mc:List wb}{μ U:M}
variable {T:TypeId}{d:TypeDesc}{xe:Bool}{Sc:List Value}{n m:Nat}
def okV (R:Value→World→Prop):Ending→World→Prop
 | .returned v,w=>R v w
 | _,_=>False
def Ol (P:Program) (fn:Func) (R:Value→World→Prop):Exit→Act→World→Prop
 | .panic _,_,_=>False
 | e,a,w=>bodyPostD P fn (okV R) e a w
theorem JD {f:FuncId}{fn:Func}{c:Code}{args frm:List Value}{R:Value→World→Prop}(d:P.funcs[f]?=some fn) (g:fn.body=some c)
  (i:args++List.replicate (fn.ntmps - args.length) undef=frm) (h:Td P c (Ol P fn R) frm [] w):Pc P f args w R:=by
 refine ⟨Calls.mono (calls_of_wp_defers (R:=okV R) d g ?_) fun e w he=>by cases e<;>exact he⟩;subst i;have ea:(⟨args⟩:Array Value)++Array.replicate (fn.ntmps - args.length) undef=⟨args++List.replicate (fn.ntmps - args.length) undef⟩:=by
  apply Array.ext';simp
 have h:=wp_mono h.out (Q':=bodyPostD P fn (okV R)) fun e a w b=>by
  cases e<;>first | exact b | exact (False.elim b)
 simpa [F,ea] using h
structure Ko (P:Program) (f:FuncId) (args:List Value) (w:World) (R:Value→World→Prop):Prop where
 out:∀ u,CallsD P f ⟨args⟩ u w fun e a w'=>a=u∧okV R e w'
theorem Tu {f:FuncId}{fn:Func}{c:Code}{args frm:List Value}{R:Value→World→Prop}(d:P.funcs[f]?=some fn) (g:fn.body=some c)
  (j:args++List.replicate (fn.ntmps - args.length) undef=frm) (h:Td P c (Jm P fn R) frm [] w):Ko P f args w R:=by
 refine ⟨fun u=>callsD_of_wp d g ?_⟩;subst j;have ea:(⟨args⟩:Array Value)++Array.replicate (fn.ntmps - args.length) undef=⟨args++List.replicate (fn.ntmps - args.length) undef⟩:=by
  apply Array.ext';simp
 have h:=wp_mono h.out (Q':=bodyPost P fn (okV R)) fun e a w b=>by
  cases e with
  | normal=>exact b
  | ret=>exact b
  | panic k=>exact b
  | exit i=>exact b
  | goto l=>exact b
  | outgrown=>exact b
 simpa [F,ea] using h
theorem Sn {f:Operand}{xs:List Operand}{tys:Array TypeId}{k:FuncId}{cap vs:List Value}(a:qb fr f (.func (.func k) #[] ⟨cap⟩)) (b:kl fr xs vs)
  (c:Wc fr dst undef Va) (h:K Va (⟨.fn (.func k) ⟨cap⟩,⟨vs⟩⟩::ds) w):xc P (Oper.mk dst (.defer { callee:=.value f,args:=⟨xs⟩,argTypes:=tys }) ty pos after g) fr ds w K Q:=by
 constructor;intro l d;have e:=a ds;have i:=b ds;have j:(execOp (F fr ds).eval (Oper.mk dst (.defer { callee:=.value f,args:=⟨xs⟩,argTypes:=tys }) ty pos after g)).run P w=.ok (.defer ⟨.fn (.func k) ⟨cap⟩,⟨vs⟩⟩) w:=by
  simp [execOp,resolve,e,Deferred.ofValue,i]
 unfold Oper.wp;rw [j];have:=d _ _ _ h;rw [← c _] at this;simpa [Oper.upon,F,Act.put] using this
theorem Rl {fn:Func}{R a:Value→World→Prop}{k:FuncId}{cap vs:List Value}(b:Ic P k) (d:Ko P k (vs++cap) w a) (h:∀ v w',a v w'→Ol P fn R .ret (F fr ds) w') :
  Ol P fn R .ret (F fr (⟨.fn (.func k) ⟨cap⟩,⟨vs⟩⟩::ds)) w:=by
 refine ⟨by simp,.func k,⟨cap⟩,k,⟨vs++cap⟩,rfl,?_,?_⟩
 ·have:=b.out ⟨vs++cap⟩ w;simp [invoke,this]
 ·refine (d.out .returning).mono fun e f w' he=>?_;obtain ⟨rfl,he⟩:=he;cases e with
  | returned v=>exact h v w' he
  | panicked c=>exact he.elim
  | outgrown=>exact he.elim
theorem af {fn:Func}{R:Value→World→Prop}{a:List ResultVar}{vs:List Value}(b:fn.results=⟨a⟩) (c:Ib P fr w a vs) (h:R (Bq vs) w):Ol P fn R .ret (F fr []) w :=
 ⟨_,pw b c,h⟩
theorem th {fn:Func}{R:Value→World→Prop}{a:Act}(h:Ol P fn R .ret a w):Ol P fn R .normal a w:=h
variable {κ β:Type}[DecidableEq κ] [Db κ] [Oi β]
end
end Go.ec
namespace Go.ec
open Go.Sb Go.RowKit
theorem Yc {P : Program} {f : FuncId} {fn : Func} (a : P.funcs[f]? = some fn) (b : fn.body.isSome = true := by rfl) (c : (fn.name == "runtime.NumGoroutine") = false := by kernel_rfl) : Ic P f := BC a b c
theorem lg {P : Program}{T : TypeId}{d : TypeDesc}{xe : Bool}{z : Value}{Sc : List Value}{n m : Nat}(hu : P.underlying T = some d) (a : St d = xe := by rfl) (h : (P.info? T).map (fun i => (i.zero, i.size, i.bytes)) = some (some z, n, m):= by kernel_rfl) (b : z.cells = ⟨Sc⟩ := by rfl) : ad P T xe Sc n m := oF hu a h b
end Go.ec
namespace Go.ec
open Go.Sb Go.RowKit
theorem jo {v:Value}{l:List Value}(h:Zf v=true) (k:l.all Zf=true):(v::l).all Zf=true:=by simp [h,k]
theorem kz:([]:List Value).all Zf=true:=rfl
section
variable {P:Program}{Q:Exit→Act→World→Prop}{K:List Value→List Deferred→World→Prop}{fr Va:List Value}{ds:List Deferred}{w:World}
variable {dst:Option Tmp}{ty:TypeId}{pos:String}{after:Array Edge}{g:Option (Nat×Bool)}
variable {J:World}{rs mc:List wb}{μ U:M}
variable {T:TypeId}{d:TypeDesc}{xe:Bool}{Sc:List Value}{n m:Nat}
class OG (α β:Type) [Ob α] [Ob β] where
 code:α→List β
 set:α→List β→α
 Ua:M→List Value→α→Prop
 up:∀ {μ U:M}{l:List Value}{x:α},ra μ U→Ua μ l x→Ua U l x
 jk:∀ {μ:M}{l:List Value}{x:α},Ua μ l x→l.length+1=Ob.Jb α
 wr:∀ {μ:M}{l:List Value}{x:α}{ys:List β}{a:Option Addr}{c:Nat},Ua μ l x→mb μ a c ys→Ob.cs μ (l++[.slice a ys.length c]) (set x ys)
 st:∀ {μ:M}{l:List Value}{x:α}{ys:List β},Ua μ l x→Ua μ l (set x ys)
 Lq:∀ {x:α},set x (code x)=x
 cs:∀ {x:α}{ys:List β},code (set x ys)=ys
variable {α β:Type}[Ob α] [Ob β] [OG α β]
end
end Go.ec
namespace Go.Sb
open Go.RowKit
section
variable {P:Program}{Q:Exit→Act→World→Prop}{ops:Array Oper}{fr Va:List Value}{ds:List Deferred}{w:World}
end
end Go.Sb
namespace Go.Sb
open Go.RowKit
section
variable {P:Program}{Q:Exit→Act→World→Prop}{ops:Array Oper}{fr Va:List Value}{ds:List Deferred}{w:World}
abbrev Mon:=List Nat×(World→Prop)
def ug (i:Nat) (a:List Mon):List Mon:=a.filter fun m=>!m.1.contains i
def Mb:List Mon→World→Prop
 | [],_=>True
 | m::l,w=>m.2 w∧Mb l w
theorem Mb.mem {a:List Mon}{w:World}:Mb a w ↔ ∀ m ∈ a,m.2 w:=by
 induction a with
 | nil=>simp [Mb]
 | cons m l b=>simp [Mb,b]
theorem Mb.sub {a Ns':List Mon}(h:Mb a w) (b:∀ m ∈ Ns',m ∈ a):Mb Ns' w:=Mb.mem.2 fun m hm=>Mb.mem.1 h m (b m hm)
theorem jt {i:Nat}{a:List Mon}:∀ m ∈ ug i a,m ∈ a:=fun m hm=>(List.mem_filter.1 hm).1
theorem Xs {i:Nat}{a Ns':List Mon}(h:∀ m ∈ Ns',m ∈ a):∀ m ∈ ug i Ns',m ∈ ug i a:=fun m hm=>List.mem_filter.2 ⟨h m (List.mem_filter.1 hm).1,(List.mem_filter.1 hm).2⟩
def hf (P:Program) (ops:Array Oper) (Q:Exit→Act→World→Prop):List Mon→List Nat→Act→World→Prop
 | _,[],a,w=>Q .normal a w
 | b,i::rest,a,w =>
  match ops[i]? with
  | none=>hf P ops Q (ug i b) rest a w
  | some o =>
   if Region.wanted o (yielded ops a.tmps) then o.wp P a w (fun a w=>Mb (ug i b) w∧hf P ops Q (ug i b) rest a w) Q∨(o.asks P a w∧LetsOut Q)
   else hf P ops Q (ug i b) rest (a.put o.dst undef) w
theorem dv {o:Oper}{a:Act}{K c:Act→World→Prop}(h:o.wp P a w K Q) (b:∀ a w,K a w→c a w):o.wp P a w c Q:=by
 unfold Oper.wp at h ⊢;cases d:(execOp a.eval o).run P w with
 | halt e w'=>rw [d] at h; cases e <;> exact h
 | ok r w' =>
  rw [d] at h;cases r with
  | value x=>exact b _ _ h
  | skip=>exact b _ _ h
  | defer i=>exact b _ _ h
  | enter f args =>
   rw [Oper.upon_enter] at h ⊢;refine Calls.mono h fun e g he=>?_;cases e with
   | returned x=>exact b _ _ he
   | panicked j=>exact he
   | outgrown=>exact he
  | row r args =>
   rw [Oper.upon_row] at h ⊢;exact Rows.mono h fun x g he=>b _ _ he
  | _=>exact h
theorem hf.mono:∀ (b:List Nat){d Ns':List Mon}{a:Act}{w:World},hf P ops Q d b a w→(∀ m ∈ Ns',m ∈ d)→hf P ops Q Ns' b a w
 | [],_,_,_,_,h,_=>h
 | i::b,d,Ns',a,w,h,c=>by
  simp only [hf] at h ⊢;cases e:ops[i]? with
  | none=>rw [e] at h; exact hf.mono b h (Xs c)
  | some o =>
   rw [e] at h;simp only at h ⊢;split
   ·rename_i hw;rw [if_pos hw] at h;rcases h with h | h
    ·exact .inl (dv h fun a w ⟨f,g⟩=>⟨f.sub (Xs c),hf.mono b g (Xs c)⟩)
    ·exact .inr h
   ·rename_i hw;rw [if_neg hw] at h;exact hf.mono b h (Xs c)
theorem hf.plain:∀ (b:List Nat){c:List Mon}{a:Act}{w:World},hf P ops Q c b a w→wpOps P ops Q b a w
 | [],_,_,_,h=>h
 | i::b,c,a,w,h=>by
  simp only [hf] at h;simp only [wpOps];cases d:ops[i]? with
  | none=>rw [d] at h; exact hf.plain b h
  | some o =>
   rw [d] at h;simp only at h ⊢;split
   ·rename_i hw;rw [if_pos hw] at h;rcases h with h | h
    ·exact .inl (dv h fun a w ⟨_,e⟩=>hf.plain b e)
    ·exact .inr h
   ·rename_i hw;rw [if_neg hw] at h;exact hf.plain b h
theorem Lv {N:World→Prop}{S:List Nat}{i d:Nat}(q:bo Q d){o:Oper}{v:Value}(z:ops[i]?=some o) (Ua:o.dst=some d){wt:Bool}(A:wt=false→v=undef) :
  ∀ (l1 b:List Nat) (fr:List Value) (ds:List Deferred) (w:World) (a:List Mon),
   (∀ j ∈ l1,j ∉ S∧match ops[j]? with
    | some p=>Vo p.op=true∧(reads ops p).contains d=false∧p.dst≠some d∧(∀ e,p.dst=some e→(reads ops o).contains e=false)
    | none=>True) →
   N w→Mb a w→Vo o.op=true→Region.wanted o (yielded ops (F fr ds).tmps)=wt →
   (wt=true→∀ ds w,N w→(execOp (F fr ds).eval o).run P w=.ok (.value v) w) →
   hf P ops Q ((S,N)::a) (l1++b) (F (fr.set d v) ds) w→hf P ops Q a (l1++i::b) (F fr ds) w
 | [],b,fr,ds,w,a,_,hw,s,t,c,u,h=>by
  simp only [List.nil_append] at h ⊢;have h:=hf.mono b h (Ns':=ug i a) fun m hm=>List.mem_cons_of_mem _ (jt m hm);simp only [hf,z];cases wt with
  | true =>
   rw [if_pos c];left;unfold Oper.wp;rw [u rfl ds w hw,Oper.upon_value,Ua];rw [show (F fr ds).put (some d) v=F (fr.set d v) ds from ba rfl ds];exact ⟨s.sub jt,h⟩
  | false =>
   rw [if_neg (by rw [c];simp),Ua,← A rfl];rw [show (F fr ds).put (some d) v=F (fr.set d v) ds from ba rfl ds];exact h
 | j::l1,b,fr,ds,w,a,H,hw,s,t,c,u,h=>by
  obtain ⟨W,B⟩:=H j (by simp);have K:∀ k ∈ l1,_:=fun k l=>H k (by simp [l]);have X:ug j ((S,N)::a)=(S,N)::ug j a:=by simp [ug,W]
  simp only [List.cons_append,hf,X] at h ⊢;cases L:ops[j]? with
  | none =>
   rw [L] at h;simp only at h ⊢;exact Lv q z Ua A l1 b fr ds w _ K hw (s.sub jt) t c u h
  | some p =>
   rw [L] at h B;simp only at h B ⊢;obtain ⟨M,C,Y,R⟩:=B;rw [jA (fr:=fr) (v:=v) (ds:=ds) (ds':=ds) C] at h;have key:∀ (x:Value) (w':World) (ds':List Deferred),N w'→Mb (ug j a) w'→hf P ops Q ((S,N)::ug j a) (l1++b) ((F (fr.set d v) ds').put p.dst x) w'→hf P ops Q (ug j a) (l1++i::b) ((F fr ds').put p.dst x) w':=by
    intro x w' ds' Z gc l;obtain ⟨g,g1,g2,g3⟩:=put_eq fr ds' p.dst x;have lc:=wanted_put (ops:=ops) (o:=o) (p:=p) (ds':=ds') (fun y D=>g3 fr y ds' ds' D) R;rw [g1] at l ⊢;rw [g2 _ _ _ Y] at l;refine Lv q z Ua A l1 b (g fr) ds' w' _ K Z gc t (lc.trans c) (fun rc n fd id=>?_) l;rw [show execOp (F (g fr) n).eval o=execOp (F fr n).eval o from execOp_congr o t fun y D=>g3 fr y n n fun e he md=>by
     exact mx (R e he) y D md]
    exact u rc n fd id
   by_cases T:Region.wanted p (yielded ops (F fr ds).tmps)=true
   ·rw [if_pos T] at h ⊢;rcases h with h | h
    ·left;unfold Oper.wp at h ⊢;rw [nx (ds':=ds) M C] at h;cases V:(execOp (F fr ds).eval p).run P w with
     | halt e w' =>
      rw [V] at h;cases e<;>first | exact h | exact q _ _ _ _ _ h
     | ok r w' =>
      rw [V] at h;cases r with
      | value x=>exact ⟨h.1.2,key x w' ds h.1.1 h.1.2 h.2⟩
      | skip=>exact ⟨h.1.2,key undef w' ds h.1.1 h.1.2 h.2⟩
      | defer rd=>exact ⟨h.1.2,key undef w' (rd::ds) h.1.1 h.1.2 h.2⟩
      | enter f args =>
       rw [Oper.upon_enter] at h ⊢;refine Calls.mono h fun e E he=>?_;cases e with
       | returned x=>exact ⟨he.1.2,key x E ds he.1.1 he.1.2 he.2⟩
       | panicked wd=>exact q _ _ _ _ _ he
       | outgrown=>exact he
      | row r args =>
       rw [Oper.upon_row] at h ⊢;exact Rows.mono h fun x E he=>⟨he.1.2,key x E ds he.1.1 he.1.2 he.2⟩
      | _=>exact h
    ·right;refine ⟨?_,h.2⟩;have G:=h.1;unfold Oper.asks at G ⊢;rw [nx (ds':=ds) M C] at G;exact G
   ·rw [if_neg T] at h ⊢;exact key undef w ds hw (s.sub jt) h
structure He (P:Program) (ops:Array Oper) (Q:Exit→Act→World→Prop) (a:List Mon) (R:List Nat) (fr:List Value) (ds:List Deferred) (w:World):Prop where
 out:Mb a w→∀ b,zk ops R b→hf P ops Q a b (F fr ds) w
theorem nh {R:List Nat}(h:He P ops Q [] R fr ds w):Cz P ops Q R fr ds w:=⟨fun a b=>hf.plain a (h.out trivial a b)⟩
theorem ng {a:List Mon}(h:Q .normal (F fr ds) w):He P ops Q a [] fr ds w:=⟨fun _ c b=>by
 cases b with
 | z=>exact h
 | s h _=>exact absurd (xp h) (by simp)⟩
def Oo (ops:Array Oper) (S R:List Nat) (i:Nat):Bool :=
 match ops[i]? with
 | some o=>match o.dst with
  | some d=>Vo o.op && R.all fun j=>S.contains j || (match ops[j]? with
    | some p=>Vo p.op && !(reads ops p).contains d && p.dst != some d && (match p.dst with | some e=>!(reads ops o).contains e | none=>true)
    | none=>true)
  | _=>false
 | none=>false
theorem ar {l:List Mon}{R R':List Nat}{i:Nat}(S:List Nat) (N:World→Prop){wt:Bool}{dst:Tmp}{op:Op}{ty:TypeId}{pos:String}{after:Array Edge}{m:Option (Nat×Bool)}{v:Value}(C:bo Q dst) (n:(decide R.Nodup && enabled ops R i && waits ops R S i && Oo ops S R i && S.contains i)=true) (D:R.erase i=R') (o:ops[i]?=some ⟨some dst,op,ty,pos,after,m⟩)
  (E:Region.wanted ⟨some dst,op,ty,pos,after,m⟩ (yielded ops (F fr ds).tmps)=wt) (G:wt=false→v=undef) (q:N w)
  (H:wt=true→∀ ds w',N w'→(execOp (F fr ds).eval ⟨some dst,op,ty,pos,after,m⟩).run P w'=.ok (.value v) w') (f:hc fr dst v Va) (h:He P ops Q ((S,N)::l) R' Va ds w):He P ops Q l R fr ds w:=⟨fun r X s=>by
 simp only [Bool.and_eq_true,decide_eq_true_eq] at n;obtain ⟨⟨⟨⟨t,u⟩,x⟩,g⟩,-⟩:=n;obtain ⟨l1,y,rfl,K,z⟩:=s.split t (xp u) u;have A:=zk.later (S:=S) s t (fun j d=>by
  unfold waits at x;have:=List.all_eq_true.1 x j d;simp only [Bool.or_eq_true,beq_iff_eq,List.any_eq_true,Bool.and_eq_true,List.contains_iff_mem] at this;rcases this with h | ⟨k,k1,L,M⟩
  ·exact .inl h
  ·exact .inr ⟨k,k1,L,M⟩) l1 y rfl (fun hm=>(z i hm).2.1 rfl)
 unfold Oo at g;simp only [o,Bool.and_eq_true,List.all_eq_true,Bool.or_eq_true,List.contains_iff_mem] at g;unfold hc at f;subst f;subst D;refine Lv C o rfl G (N:=N) (S:=S) (v:=v) l1 y fr ds w l (fun j d=>⟨A j d,?_⟩) q r g.1 E H (h.out ⟨q,r⟩ _ K);obtain ⟨a,b,c⟩:=z j d;have:=g.2 j a;rcases this with h | h
 ·exact absurd h (A j d)
 ·cases f:ops[j]? with
  | none=>trivial
  | some p =>
   rw [f] at h;simp only [Bool.and_eq_true,Bool.not_eq_true',bne_iff_ne,ne_eq] at h;obtain ⟨⟨⟨T,V⟩,W⟩,B⟩:=h;refine ⟨T,V,W,fun e he=>?_⟩;rw [he] at B;simpa using B⟩
theorem Ce {a:List Mon}{R R':List Nat}{i:Nat}(S:List Nat){dst:Tmp}{op:Op}{ty:TypeId}{pos:String}{after:Array Edge}{v:Value}(b:bo Q dst) (c:(decide R.Nodup && enabled ops R i && waits ops R S i && Oo ops S R i && S.contains i)=true) (d:R.erase i=R') (e:ops[i]?=some ⟨some dst,op,ty,pos,after,none⟩)
  (f:kp P ⟨some dst,op,ty,pos,after,none⟩ fr w v) (g:hc fr dst v Va) (h:He P ops Q ((S,fun w'=>kp P ⟨some dst,op,ty,pos,after,none⟩ fr w' v)::a) R' Va ds w):He P ops Q a R fr ds w :=
 ar S _ (wt:=true) b c d e (Vc rfl) (fun h=>by cases h) f (fun _ ds w' hw=>hw.out ds) g h
theorem Vn {a:List Mon}{R R':List Nat}{i j d:Nat}{b:Bool}(S:List Nat){dst:Tmp}{op:Op}{ty:TypeId}{pos:String}{after:Array Edge}{v:Value}(c:bo Q dst) (e:(decide R.Nodup && enabled ops R i && waits ops R S i && Oo ops S R i && S.contains i)=true) (f:R.erase i=R') (g:ops[i]?=some ⟨some dst,op,ty,pos,after,some (j,b)⟩) (k:(ops[j]?).bind (·.dst)=some d) (l:Xb fr d (.bool b))
  (m:kp P ⟨some dst,op,ty,pos,after,some (j,b)⟩ fr w v) (n:hc fr dst v Va) (h:He P ops Q ((S,fun w'=>kp P ⟨some dst,op,ty,pos,after,some (j,b)⟩ fr w' v)::a) R' Va ds w):He P ops Q a R fr ds w :=
 ar S _ (wt:=true) c e f g (Zq rfl k l) (fun h=>by cases h) m (fun _ ds w' hw=>hw.out ds) n h
theorem hf.add {m:Mon}(d:∀ w,m.2 w):∀ (c:List Nat){b:List Mon}{a:Act}{w:World},hf P ops Q b c a w→hf P ops Q (m::b) c a w
 | [],_,_,_,h=>h
 | i::c,b,a,w,h=>by
  have f:ug i (m::b)=m::ug i b∨ug i (m::b)=ug i b:=by
   unfold ug;rw [List.filter_cons];split
   ·exact .inl rfl
   ·exact .inr rfl
  have key:∀ {a w},hf P ops Q (ug i b) c a w→hf P ops Q (ug i (m::b)) c a w:=fun h=>by
   rcases f with e | e<;>rw [e]
   ·exact hf.add d c h
   ·exact h
  have j:∀ {w},Mb (ug i b) w→Mb (ug i (m::b)) w:=fun h=>by
   rcases f with e | e<;>rw [e]
   ·exact ⟨d _,h⟩
   ·exact h
  simp only [hf] at h ⊢;cases g:ops[i]? with
  | none=>rw [g] at h; exact key h
  | some o =>
   rw [g] at h;simp only at h ⊢;split
   ·rename_i hw;rw [if_pos hw] at h;rcases h with h | h
    ·exact .inl (dv h fun a w ⟨k,l⟩=>⟨j k,key l⟩)
    ·exact .inr h
   ·rename_i hw;rw [if_neg hw] at h;exact key h
theorem ev {a:List Mon}{m:Mon}{R:List Nat}(c:∀ w,m.2 w) (h:He P ops Q a R fr ds w):He P ops Q (m::a) R fr ds w:=⟨fun d b e=>hf.add c b (h.out d.2 b e)⟩
theorem Qb {a:List Mon}{R R':List Nat}{i:Nat}(S:List Nat){dst:Tmp}{op:Op}{ty:TypeId}{pos:String}{after:Array Edge}{v:Value}(b:bo Q dst) (c:(decide R.Nodup && enabled ops R i && waits ops R S i && Oo ops S R i && S.contains i)=true) (d:R.erase i=R') (e:ops[i]?=some ⟨some dst,op,ty,pos,after,none⟩)
  (f:we P ⟨some dst,op,ty,pos,after,none⟩ fr v) (g:hc fr dst v Va) (h:He P ops Q a R' Va ds w):He P ops Q a R fr ds w :=
 ar S (fun _=>True) (wt:=true) b c d e (Vc rfl) (fun h=>by cases h) trivial (fun _ ds w' _=>f.out ds w') g (ev (fun _=>trivial) h)
theorem Se {a:List Mon}{R R':List Nat}{i j d:Nat}{b:Bool}(S:List Nat){dst:Tmp}{op:Op}{ty:TypeId}{pos:String}{after:Array Edge}{v:Value}(c:bo Q dst) (e:(decide R.Nodup && enabled ops R i && waits ops R S i && Oo ops S R i && S.contains i)=true) (f:R.erase i=R') (g:ops[i]?=some ⟨some dst,op,ty,pos,after,some (j,b)⟩) (k:(ops[j]?).bind (·.dst)=some d) (l:Xb fr d (.bool b))
  (m:we P ⟨some dst,op,ty,pos,after,some (j,b)⟩ fr v) (n:hc fr dst v Va) (h:He P ops Q a R' Va ds w):He P ops Q a R fr ds w :=
 ar S (fun _=>True) (wt:=true) c e f g (Zq rfl k l) (fun h=>by cases h) trivial (fun _ ds w' _=>m.out ds w') n (ev (fun _=>trivial) h)
theorem Tb {a:List Mon}{R R':List Nat}{i j d:Nat}{b c:Bool}(S:List Nat){dst:Tmp}{op:Op}{ty:TypeId}{pos:String}{after:Array Edge}(e:bo Q dst) (f:(decide R.Nodup && enabled ops R i && waits ops R S i && Oo ops S R i && S.contains i)=true) (g:R.erase i=R') (k:ops[i]?=some ⟨some dst,op,ty,pos,after,some (j,b)⟩) (l:(ops[j]?).bind (·.dst)=some d) (m:Xb fr d (.bool c)) (n:(c == b)=false)
  (o:hc fr dst undef Va) (h:He P ops Q a R' Va ds w):He P ops Q a R fr ds w :=
 ar S (fun _=>True) (wt:=false) e f g k ((px rfl l m).trans n) (fun _=>rfl) trivial (fun h=>by cases h) o (ev (fun _=>trivial) h)
structure gu (P:Program) (ops:Array Oper) (Q:Exit→Act→World→Prop) (a:List Mon) (R:List Nat) (fr:List Value) (ds:List Deferred) (w:World):Prop where
 m:Mb a w
 s:He P ops Q a R fr ds w
theorem Mb.s {m:Mon}{l:List Mon}(h:m.2 w) (k:Mb l w):Mb (m::l) w:=⟨h,k⟩
theorem Mb.z:Mb [] w:=trivial
theorem vy {b:List Mon}{R:List Nat}(d:R≠[]) (h:∀ i ∈ Av ops R,∃ o,ops[i]?=some o∧Region.wanted o (yielded ops (F fr ds).tmps)=true∧xc P o fr ds w (gu P ops Q (ug i b) (R.erase i)) Q):He P ops Q b R fr ds w:=⟨fun l e f=>by
 cases f with
 | z=>exact absurd rfl d
 | @s _ e i c g =>
  obtain ⟨o,j,hw,k⟩:=h i (List.mem_filter.2 ⟨xp c,c⟩);simp only [hf,j];rw [if_pos hw];exact .inl (k.out _ fun Va ds' w' a=>⟨a.m,a.s.out a.m _ g⟩)⟩
theorem dd {b Ns':List Mon}{R:List Nat}{i:Nat}{R':List Nat}{o:Oper}(c:Av ops R=[i]) (d:R.erase i=R') (Ua:ug i b=Ns') (f:ops[i]?=some o) (hw:Region.wanted o (yielded ops (F fr ds).tmps)=true)
  (h:xc P o fr ds w (gu P ops Q Ns' R') Q):He P ops Q b R fr ds w :=
 vy (by intro e;subst e;cases c) fun k a=>by
  rw [c] at a;simp at a;subst a;exact ⟨_,f,hw,by rw [d,Ua];exact h⟩
theorem tz {a f g:List Mon}{R:List Nat}{i j:Nat}{h l:List Nat}{b c:Oper}(m:Av ops R=[i,j]) (n:R.erase i=h) (o:R.erase j=l) (p:ug i a=f) (q:ug j a=g) (r:ops[i]?=some b) (s:ops[j]?=some c) (t:Region.wanted b (yielded ops (F fr ds).tmps)=true) (u:Region.wanted c (yielded ops (F fr ds).tmps)=true)
  (v:xc P b fr ds w (gu P ops Q f h) Q) (x:xc P c fr ds w (gu P ops Q g l) Q):He P ops Q a R fr ds w :=
 vy (by intro e;subst e;cases m) fun k d=>by
  rw [m] at d;simp at d;rcases d with rfl | rfl
  ·exact ⟨_,r,t,by rw [n,p];exact v⟩
  ·exact ⟨_,s,u,by rw [o,q];exact x⟩
theorem uz {a:List Mon}{R:List Nat}{c e:List Value}{d:Nat}{b:Bool}(f:Xb fr d (.bool b)) (g:hc fr d (.bool true) c) (h:hc fr d (.bool false) e)
  (i:b=true→He P ops Q a R c ds w) (j:¬ b=true→He P ops Q a R e ds w):He P ops Q a R fr ds w:=by
 cases b with
 | true=>have:=i rfl; rw [hc.same f g] at this; exact this
 | false=>have:=j (by simp); rw [hc.same f h] at this; exact this
theorem lz {a:List Mon}{R:List Nat}{b c:List Value}{d:Nat}{p:Prop}[Decidable p] (e:Xb fr d (.bool (decide p))) (f:hc fr d (.bool true) b) (g:hc fr d (.bool false) c)
  (i:p→He P ops Q a R b ds w) (j:¬ p→He P ops Q a R c ds w):He P ops Q a R fr ds w :=
 uz e f g (fun h=>i (of_decide_eq_true h)) (fun h=>j fun k=>h (decide_eq_true k))
theorem Yy {a:List Mon}{R:List Nat}{c e:List Value}{d:Nat}{b:Bool}(f:Xb fr d (.bool (!b))) (g:hc fr d (.bool true) c) (i:hc fr d (.bool false) e)
  (j:¬ b=true→He P ops Q a R c ds w) (k:b=true→He P ops Q a R e ds w):He P ops Q a R fr ds w :=
 uz f g i (fun h=>j (by simpa using h)) (fun h=>k (by simpa using h))
end
end Go.Sb
namespace Go.ec
open Go.Sb Go.RowKit
section
variable {P:Program}{Q:Exit→Act→World→Prop}{K:List Value→List Deferred→World→Prop}{fr Va:List Value}{ds:List Deferred}{w:World}
variable {dst:Option Tmp}{ty:TypeId}{pos:String}{after:Array Edge}{g:Option (Nat×Bool)}
variable {J:World}{rs mc:List wb}{μ U:M}
variable {T:TypeId}{d:TypeDesc}{xe:Bool}{Sc:List Value}{n m:Nat}
end
end Go.ec
