/- Texts of Xt. -/
import Derived.Test.YtbdiobhgejmgoaaGreatDoorCWk
import Derived.LoopN
import Derived.KernelRfl
set_option linter.unusedSimpArgs false
set_option linter.unusedVariables false
set_option linter.unusedSectionVars false
namespace Go.Kc
open Go.cc Go.RowKit
abbrev M:=World→Prop
def ra (μ J:M):Prop:=∀ w,J w→μ w
theorem ra.r {μ:M}:ra μ μ:=fun _ h=>h
theorem ra.t {a b c:M}(h:ra a b) (k:ra b c):ra a c:=fun w x=>h w (k w x)
abbrev Ma (μ:M) (I w:World) (rs:List yb):Prop:=Sep (fun _=>False) (fun _=>True) I w rs μ
def Td (μ:M) (b o:Nat) (cs:List Value):Prop:=∀ w,μ w→ri w b o cs
theorem Td.up {μ J:M}{b o:Nat}{cs:List Value}(h:Td μ b o cs) (l:ra μ J):Td J b o cs:=fun w k=>h w (l w k)
class nc (α:Type) where
 Mb:Nat
 pos:0<Mb
 cs:M→List Value→α→Prop
 Di:∀ {μ:M}{l:List Value}{x:α},cs μ l x→l.length=Mb
 up:∀ {μ J:M}{l:List Value}{x:α},ra μ J→cs μ l x→cs J l x
 Ei:∀ {μ:M}{l:List Value}{x:α},cs μ l x→l.all tg=true
structure kd {α:Type}(Mb:Nat) (R:List Value→α→Prop) (μ:M) (a:Option Addr) (c:Nat) (xs:List α):Prop where
 le:xs.length≤c
 cap:c≤maxLen
 el:xs=[]∨∃ b o,a=some ⟨b,o,none⟩∧∃ g:Nat→List Value,∀ i x,xs[i]?=some x→Td μ b (o+i*Mb) (g i)∧R (g i) x
abbrev Va {α:Type}[nc α] (μ:M) (a:Option Addr) (c:Nat) (xs:List α):Prop:=kd (nc.Mb α) (nc.cs μ) μ a c xs
theorem kd.imp {α:Type}{Mb:Nat}{R R':List Value→α→Prop}{μ J:M}{a:Option Addr}{c:Nat}{xs:List α}(h:kd Mb R μ a c xs) (l:ra μ J) (f:∀ (i:Nat) (cs:List Value) (x:α),xs[i]?=some x→R cs x→R' cs x):kd Mb R' J a c xs where
 le:=h.le
 cap:=h.cap
 el:=by
  rcases h.el with h | ⟨b,o,j,g,e⟩
  ·exact .inl h
  ·exact .inr ⟨b,o,j,g,fun i x d=>⟨(e i x d).1.up l,f i _ x d (e i x d).2⟩⟩
theorem Va.up {α:Type}[nc α]{μ J:M}{a:Option Addr}{c:Nat}{xs:List α}(h:Va μ a c xs) (l:ra μ J):Va J a c xs:=kd.imp h l fun _ _ _ _=>nc.up l
theorem Va.nil {α:Type}[nc α]{μ:M}{a:Option Addr}:Va (α:=α) μ a 0 []:=⟨by simp,by simp,.inl rfl⟩
instance:nc Int where
 Mb:=1
 pos:=by decide
 cs _ l x:=l=[.int .i64 x]
 Di h:=by rw [h];rfl
 up _ h:=h
 Ei h:=by rw [h];rfl
instance:nc Bool where
 Mb:=1
 pos:=by decide
 cs _ l x:=l=[.bool x]
 Di h:=by rw [h];rfl
 up _ h:=h
 Ei h:=by rw [h];rfl
instance {α:Type}[nc α]:nc (List α) where
 Mb:=1
 pos:=by decide
 cs μ l xs:=∃ a c,l=[.slice a xs.length c]∧Va μ a c xs
 Di h:=by obtain ⟨a,c,rfl,-⟩:=h;rfl
 up l h:=by obtain ⟨a,c,b,d⟩:=h;exact ⟨a,c,b,d.up l⟩
 Ei h:=by obtain ⟨a,c,rfl,-⟩:=h;rfl
instance:nc (List UInt8) where
 Mb:=1
 pos:=by decide
 cs _ l x:=l=[S x]
 Di h:=by rw [h];rfl
 up _ h:=h
 Ei h:=by rw [h];rfl
def i64 (n:Int):Option Int:=if -9223372036854775808≤n∧n≤9223372036854775807 then some n else none
def Ep (n:Int):Int:=IntKind.i64.wrap n
def Me (n:Int):Int:=IntKind.u8.wrap n
def at_ {α:Type}(l:List α) (i:Int):Option α:=if 0≤i then l[i.toNat]? else none
def cut {α:Type}(l:List α) (i j:Int):Option (List α):=if 0≤i∧i≤j∧j≤l.length then some ((l.take j.toNat).drop i.toNat) else none
def cat (a b:List UInt8):Option (List UInt8):=if a.length+b.length≤9223372036854775807 then some (a++b) else none
def app {α:Type}(l:List α) (xs:List α):Option (List α):=if l.length+xs.length≤4294967296 then some (l++xs) else none
theorem La {α β:Type}{o:Option α}{f:α→Option β}{r:β}(h:Option.bind o f=some r):∃ x,o=some x∧f x=some r:=Option.bind_eq_some_iff.1 h
theorem Oa {α:Type}{c:Prop}[Decidable c]{x y:α}{r:α}(a:c) (h:(if c then x else y)=r):x=r:=by rwa [if_pos a] at h
theorem Pa {α:Type}{c:Prop}[Decidable c]{x y:α}{r:α}(a:¬ c) (h:(if c then x else y)=r):y=r:=by rwa [if_neg a] at h
theorem oq {n x:Int}(h:i64 n=some x):x=n∧-9223372036854775808≤n∧n≤9223372036854775807:=by
 unfold i64 at h;split at h
 ·rename_i a;exact ⟨(Option.some.inj h).symm,a⟩
 ·cases h
theorem Ps {n x:Int}(h:i64 n=some x):IntKind.i64.wrap n=x:=by
 obtain ⟨rfl,a,b⟩:=oq h;exact wr (by omega)
theorem Lt {α:Type}{l:List α}{i:Int}{x:α}(h:at_ l i=some x):0≤i∧i<l.length∧l[i.toNat]?=some x:=by
 unfold at_ at h;split at h
 ·rename_i a;refine ⟨a,?_,h⟩;have:=(List.getElem?_eq_some_iff.1 h).1;omega
 ·cases h
theorem Dr {α:Type}{l ys:List α}{i j:Int}(h:cut l i j=some ys):(0≤i∧i≤j∧j≤l.length)∧ys=(l.take j.toNat).drop i.toNat:=by
 unfold cut at h;split at h
 ·rename_i a;exact ⟨a,(Option.some.inj h).symm⟩
 ·cases h
theorem iA {a b c:List UInt8}(h:cat a b=some c):c=a++b∧a.length+b.length≤9223372036854775807:=by
 unfold cat at h;split at h
 ·rename_i d;exact ⟨(Option.some.inj h).symm,d⟩
 ·cases h
theorem pq {α:Type}{a b c:List α}(h:app a b=some c):c=a++b∧a.length+b.length≤4294967296:=by
 unfold app at h;split at h
 ·rename_i d;exact ⟨(Option.some.inj h).symm,d⟩
 ·cases h
structure bu (v:Value) (Mb:Nat) (i:Int) (b o:Nat):Prop where
 out:∃ a n c,v=.slice (some ⟨b,a,none⟩) n c∧0≤i∧i<n∧a+i.toNat*Mb=o
theorem kd.elem {α:Type}{Mb:Nat}{R:List Value→α→Prop}{μ:M}{a:Option Addr}{c:Nat}{xs:List α}{i:Int}{x:α}(h:kd Mb R μ a c xs) (g:at_ xs i=some x) :
  ∃ b o cs,bu (.slice a xs.length c) Mb i b o∧Td μ b o cs∧R cs x:=by
 obtain ⟨j,k,d⟩:=Lt g;rcases h.el with rfl | ⟨b,o,rfl,f,e⟩
 ·simp at d
 ·exact ⟨b,_,f i.toNat,⟨o,_,_,rfl,j,k,rfl⟩,(e _ _ d).1,(e _ _ d).2⟩
def ib {α:Type}[nc α] (μ:M):List Value→List α→Prop
 | cells,[]=>cells=[]
 | cells,x::l=>∃ cs t,cells=cs++t∧nc.cs μ cs x∧ib μ t l
theorem ib.len {α:Type}[nc α]{μ:M}:∀ {l:List α}{cells:List Value},ib μ cells l→cells.length=l.length*nc.Mb α
 | [],cells,h=>by rw [ib] at h; simp [h]
 | x::l,cells,h=>by
  rw [ib] at h;obtain ⟨cs,t,rfl,a,b⟩:=h;simp [ib.len b,nc.Di a,Nat.add_mul,Nat.add_comm]
theorem ib.up {α:Type}[nc α]{μ J:M}(a:ra μ J):∀ {l:List α}{cells:List Value},ib μ cells l→ib J cells l
 | [],cells,h=>by rw [ib] at h ⊢; exact h
 | x::l,cells,h=>by
  rw [ib] at h ⊢;obtain ⟨cs,t,b,c,d⟩:=h;exact ⟨cs,t,b,nc.up a c,ib.up a d⟩
theorem ib.cat {α:Type}[nc α]{μ:M}{b:List α}{a:List Value}(k:ib μ a b):∀ {l:List α}{cells:List Value},ib μ cells l→ib μ (cells++a) (l++b)
 | [],cells,h=>by rw [ib] at h; subst h; exact k
 | x::l,cells,h=>by
  rw [ib] at h;obtain ⟨cs,t,rfl,c,d⟩:=h;rw [List.cons_append,ib];exact ⟨cs,t++a,by simp,c,ib.cat k d⟩
theorem ib.nil {α:Type}[nc α]{μ:M}:ib μ [] ([]:List α):=rfl
theorem ib.one {α:Type}[nc α]{μ:M}{cs:List Value}{x:α}(h:nc.cs μ cs x):ib μ cs [x]:=⟨cs,[],by simp,h,rfl⟩
theorem ib.cons {α:Type}[nc α]{μ:M}{cs t:List Value}{x:α}{l:List α}(h:nc.cs μ cs x) (k:ib μ t l):ib μ (cs++t) (x::l):=⟨cs,t,rfl,h,k⟩
theorem ib.Ei {α:Type}[nc α]{μ:M}:∀ {l:List α}{cells:List Value},ib μ cells l→cells.all tg=true
 | [],cells,h=>by rw [ib] at h; simp [h]
 | x::l,cells,h=>by
  rw [ib] at h;obtain ⟨cs,t,rfl,a,b⟩:=h;rw [List.all_append,nc.Ei a,ib.Ei b];rfl
theorem ib.get {α:Type}[nc α]{μ:M}:∀ {l:List α}{cells:List Value}{i:Nat}{x:α},ib μ cells l→l[i]?=some x→nc.cs μ ((cells.drop (i*nc.Mb α)).take (nc.Mb α)) x
 | [],cells,i,x,h,a=>by simp at a
 | y::l,cells,i,x,h,a=>by
  rw [ib] at h;obtain ⟨cs,t,rfl,b,c⟩:=h;cases i with
  | zero=>simp at a; subst a; simp [← nc.Di b]; exact b
  | succ i =>
   simp at a;have:=ib.get c a;have e:(i+1)*nc.Mb α=cs.length+i*nc.Mb α:=by rw [Nat.add_mul,nc.Di b];omega
   rw [e,← List.drop_drop];simpa using this
section
variable {P:Program}{Q:Exit→Act→World→Prop}{K:List Value→List Deferred→World→Prop}{fr O:List Value}{ds:List Deferred}{w:World}
variable {dst:Option Tmp}{ty:TypeId}{pos:String}{after:Array Edge}{g:Option (Nat×Bool)}
variable {I:World}{rs U:List yb}{μ:M}
variable {T:TypeId}{d:TypeDesc}{qe:Bool}{Uc:List Value}{n m:Nat}
theorem Zb {c:Code}(d:List Nat) (g:d.Nodup) (Rf:List Fb→World→Prop) (i:∀ m w,Rf m w→opens m=d)
  (h:Yd P c (Exit.then (fun j w'=>∃ m O,j=F O ds∧mc m fr O∧Rf m w') Q) fr ds w)
  (k:∀ m t w,Rf m w→Q .normal (F (ig t m fr) ds) w):Yd P c Q fr ds w:=⟨
 wp_mono h.out fun e a w' b=>by
  cases e with
  | normal =>
   obtain ⟨m,O,rfl,n,f⟩:=b;obtain ⟨o,p⟩:=n.ex (by rw [i m w' f];exact g);have:=k m o w' f;rw [← p] at this;exact this
  | exit id=>exact b
  | goto l=>exact b
  | ret=>exact b
  | panic q=>exact b
  | outgrown=>exact b⟩
theorem Ie {c:Code}(e:List Nat) (j:e.Nodup) (Rf:Nat→List Fb→World→Prop) (g:∀ n m w,Rf n m w→opens m=e) (f:Nat) (m0:List Fb) (k:mc m0 fr fr) (h:Rf f m0 w)
  (round:∀ n m t w,Rf n m w→Yd P c (Exit.then (fun l w'=>∃ b d O,l=F O ds∧mc d fr O∧Rf b d w'∧b<n) Q) (ig t m fr) ds w):Yd P (.loop c) Q fr ds w:=by
 refine sw (α:={ p:Nat×List Fb // opens p.2=e }) e j (fun p=>p.1.2) (fun p=>p.2) (fun p w=>Rf p.1.1 p.1.2 w) (fun p _=>p.1.1) ⟨(f,m0),g f m0 w h⟩ k h fun p t w o=>?_;refine (round p.1.1 p.1.2 t w o).mono (Ox fun a w' ⟨b,d,O,q,r,i,s⟩=>⟨⟨(b,d),g b d w' i⟩,O,q,r,i,s⟩)
theorem Rb {c:Operand}{x y:Code}{b:Bool}(a:ub fr c (.bool b)) (d:b=true→Yd P x Q fr ds w) (e:¬ b=true→Yd P y Q fr ds w):Yd P (.cond c x y) Q fr ds w :=
 Yt a d fun h=>e (by rw [h];simp)
theorem yh {c:Operand}{x y:Code}{b:Bool}(a:ub fr c (.bool (!b))) (d:¬ b=true→Yd P x Q fr ds w) (e:b=true→Yd P y Q fr ds w):Yd P (.cond c x y) Q fr ds w :=
 Yt a (fun h=>d (by simpa using h)) fun h=>e (by simpa using h)
theorem Jk {ops:Array Oper}{l:List Oper}{a c:List Value}{d:Nat}{b:Bool}(e:Vb fr d (.bool b)) (f:jc fr d (.bool true) a) (g:jc fr d (.bool false) c)
  (i:b=true→Ng P ops Q l a ds w) (j:¬ b=true→Ng P ops Q l c ds w):Ng P ops Q l fr ds w:=Zt e f g i fun h=>j (by rw [h];simp)
theorem yq {ops:Array Oper}{l:List Oper}{a c:List Value}{d:Nat}{b:Bool}(e:Vb fr d (.bool (!b))) (f:jc fr d (.bool true) a) (g:jc fr d (.bool false) c)
  (i:¬ b=true→Ng P ops Q l a ds w) (j:b=true→Ng P ops Q l c ds w):Ng P ops Q l fr ds w:=Zt e f g (fun h=>i (by simpa using h)) fun h=>j (by simpa using h)
inductive qa:List yb→Nat→List yb→Prop where
 | z {rs:List yb}:qa rs 0 rs
 | s {a r:yb} {rs U:List yb} {k:Nat} (h:qa rs k (r::U)):qa (a::rs) (k+1) (r::a::U)
theorem qa.perm {k:Nat}{rs U:List yb}(h:qa rs k U):rs.Perm U:=by
 induction h with
 | z=>exact .refl _
 | s _ a=>exact (a.cons _).trans (.swap _ _ _)
theorem _root_.Go.cc.Sep.ob {k:Nat}{S Z:Nat→Prop}{A:World→Prop}(h:Sep S Z I w rs A) (a:qa rs k U):Sep S Z I w U A where
 keeps:=h.keeps
 all r d:=h.all r (a.perm.mem_iff.2 d)
 qh:=(a.perm.filterMap _).nodup_iff.1 h.qh
 new b e:=h.new b ((a.perm.filterMap _).mem_iff.2 e)
 Ch:=h.Ch.mono fun k _ c=>⟨c.1,fun hm=>c.2 ((a.perm.filterMap yb.block).mem_iff.2 hm)⟩
theorem _root_.Go.cc.Sep.cu {r:yb}{B:World→Prop}(h:Ma μ I w (r::rs)) (a:∀ w,r.holds w→B w):Ma (fun w=>μ w∧B w) I w rs :=
 Sep.freeze h (d0 (α:=yb)) Na.z (fun _ _=>.inl trivial) a
theorem _root_.Go.cc.Sep.xk {α:Type}[nc α]{v:Value}{cells:List Value}{l:List α}(h:Ma μ I w (.row v T (nc.Mb α) n cells::rs)) (p:ib μ cells l) (e:l.length=n) :
  ∃ J a c,v=.slice a l.length c∧ra μ J∧Va J a c l∧Ma J I w rs:=by
 have q:Row w v T (nc.Mb α) n cells:=h.all _ (List.mem_cons_self ..);have f:=Sep.cu (B:=fun w=>Row w v T (nc.Mb α) n cells) h fun w hw=>hw;have hle:ra μ (fun w=>μ w∧Row w v T (nc.Mb α) n cells):=fun w hw=>hw.1;rcases q.2 with ⟨rfl,rfl⟩ | ⟨g,o,cap,cur,rfl,D,r,s,E,F⟩
 ·obtain rfl:=List.eq_nil_of_length_eq_zero e;exact ⟨_,none,0,rfl,hle,Va.nil,f⟩
 ·subst e;refine ⟨_,some ⟨g,o,none⟩,cap,rfl,hle,⟨r,s,.inr ⟨g,o,rfl,fun i=>(cells.drop (i*nc.Mb α)).take (nc.Mb α),fun i x k=>⟨?_,?_⟩⟩⟩,f⟩
  ·intro G t j u d;obtain ⟨-,y⟩:=t;have z:0<l.length:=by have:=(List.getElem?_eq_some_iff.1 k).1;omega
   obtain ⟨b,H,c,m,A⟩:=y.zw z;simp at m;obtain ⟨⟨rfl,rfl⟩,rfl⟩:=m;have C:j<nc.Mb α:=by
    have:=(List.getElem?_eq_some_iff.1 d).1;simp at this;omega
   rw [List.getElem?_take_of_lt C,List.getElem?_drop] at d;have:=A _ u d;rw [← Nat.add_assoc] at this;exact this
  ·exact nc.up hle (p.get k)
theorem _root_.Go.cc.Sep.Ee {α:Type}[nc α]{b:Nat}{cells:List Value}{l:List α}(h:Ma μ I w (.na b T cells::rs)) (c:ib μ cells l) (hlen:l.length≤maxLen) :
  ∃ J,ra μ J∧Va J (some ⟨b,0,none⟩) l.length l∧Ma J I w rs:=by
 have d:=Sep.cu (B:=fun w=>pj w b T cells) h fun w hw=>hw;have hle:ra μ (fun w=>μ w∧pj w b T cells):=fun w hw=>hw.1;refine ⟨_,hle,⟨Nat.le_refl _,hlen,.inr ⟨b,0,rfl,fun i=>(cells.drop (i*nc.Mb α)).take (nc.Mb α),fun i x e=>⟨?_,nc.up hle (c.get e)⟩⟩⟩,d⟩;intro k f j u a;have g:j<nc.Mb α:=by
  have:=(List.getElem?_eq_some_iff.1 a).1;simp at this;omega
 rw [List.getElem?_take_of_lt g,List.getElem?_drop] at a;have:=f.2.cells _ u a;rw [Nat.zero_add] at this ⊢;exact this
theorem lh {x y:Operand}{v:Value}{b o Mb:Nat}{k:IntKind}{i:Int}{e:TypeId}(a:P.underlying T=some (.slice e)) (d:Wc P e qe Uc Mb m) (f:ub fr x v) (h:ub fr y (.int k i)) (he:bu v Mb i b o):ae P (Oper.mk dst (.indexAddr T x y) ty pos after g) fr ((.pointer (some ⟨b,o,none⟩))):=by
 obtain ⟨q,n,c,rfl,j,l,p⟩:=he.out;exact Jw a d f h ⟨j,l⟩ p
theorem Se {x y:Operand}{v:Value}{b o Mb:Nat}{k:IntKind}{i:Int}{e:TypeId}(a:P.underlying T=some (.slice e)) (c:Wc P e qe Uc Mb m) (d:ub fr x v) (f:ub fr y (.int k i)) (he:bu v Mb i b o) (j:Rc fr dst ((.pointer (some ⟨b,o,none⟩))) O) (h:K O ds w):Dc P (Oper.mk dst (.indexAddr T x y) ty pos after g) fr ds w K Q:=xe (lh a c d f he) j h
theorem Pv {x y:Operand}{t d:TypeId}{a b c:Int}(e:ub fr x (.int .i64 a)) (f:ub fr y (.int .i64 b)) (h:i64 (a+b)=some c):ae P (Oper.mk dst (.binOp .add t x y d) ty pos after g) fr ((.int .i64 c)):=Jt e f (Ps h)
theorem Ud {x y:Operand}{t d:TypeId}{a b c:Int}(e:ub fr x (.int .i64 a)) (f:ub fr y (.int .i64 b)) (h:i64 (a+b)=some c) (i:Rc fr dst ((.int .i64 c)) O) (k:K O ds w):Dc P (Oper.mk dst (.binOp .add t x y d) ty pos after g) fr ds w K Q:=xe (Pv e f h) i k
theorem jA {x y:Operand}{t d:TypeId}{a b c:Int}(e:ub fr x (.int .i64 a)) (f:ub fr y (.int .i64 b)) (h:i64 (a - b)=some c):ae P (Oper.mk dst (.binOp .sub t x y d) ty pos after g) fr ((.int .i64 c)):=tw e f (Ps h)
theorem Tm {x y:Operand}{t d:TypeId}{a b c:Int}(e:ub fr x (.int .i64 a)) (f:ub fr y (.int .i64 b)) (h:i64 (a - b)=some c) (i:Rc fr dst ((.int .i64 c)) O) (k:K O ds w):Dc P (Oper.mk dst (.binOp .sub t x y d) ty pos after g) fr ds w K Q:=xe (jA e f h) i k
theorem kA {x y:Operand}{t:TypeId}{k:IntKind}{a:List UInt8}{i:Int}{c:UInt8}(b:P.underlying t=some .string) (d:ub fr x (S a)) (e:ub fr y (.int k i)) (h:at_ a i=some c):ae P (Oper.mk dst (.index t x y) ty pos after g) fr (.int .u8 c.toNat):=bA b d e (Lt h).1 (Lt h).2.2
theorem Lj {x y:Operand}{t:TypeId}{k:IntKind}{a:List UInt8}{i:Int}{c:UInt8}(b:P.underlying t=some .string) (d:ub fr x (S a)) (e:ub fr y (.int k i)) (h:at_ a i=some c) (f:Rc fr dst (.int .u8 c.toNat) O) (kk:K O ds w):Dc P (Oper.mk dst (.index t x y) ty pos after g) fr ds w K Q:=xe (kA b d e h) f kk
theorem lA {x y:Operand}{t d:TypeId}{a b c:List UInt8}(e:ub fr x (S a)) (f:ub fr y (S b)) (h:cat a b=some c):ae P (Oper.mk dst (.binOp .add t x y d) ty pos after g) fr (S c):=by
 obtain ⟨rfl,i⟩:=iA h;exact BB e f i
theorem Qv {x y:Operand}{t d:TypeId}{a b c:List UInt8}(e:ub fr x (S a)) (f:ub fr y (S b)) (h:cat a b=some c) (i:Rc fr dst (S c) O) (k:K O ds w):Dc P (Oper.mk dst (.binOp .add t x y d) ty pos after g) fr ds w K Q:=xe (lA e f h) i k
structure du (v:Value) (Mb:Nat) (i j:Option Int) (b:Value):Prop where
 out:∃ a n c,v=.slice a n c∧0≤i.getD 0∧i.getD 0≤j.getD n∧j.getD n≤c∧b=.slice (if c=(i.getD 0).toNat then a else a.map (·.add ((i.getD 0).toNat*Mb))) ((j.getD n).toNat - (i.getD 0).toNat) (c - (i.getD 0).toNat)
inductive Jp (fr:List Value):Option Operand→Option Int→Prop where
 | n:Jp fr none none
 | s {x:Operand} {i:Int} (h:ub fr x (.int .i64 i)):Jp fr (some x) (some i)
theorem JB {x:Operand}{q up:Option Operand}{v r:Value}{Mb:Nat}{i j:Option Int}{e:TypeId}(f:P.underlying T=some (.slice e)) (k:Wc P e qe Uc Mb m) (l:ub fr x v) (u:Jp fr q i) (t:Jp fr up j) (he:du v Mb i j r):ae P (Oper.mk dst (.slice T x q up none) ty pos after g) fr r:=by
 obtain ⟨a,n,c,rfl,o,b,d,rfl⟩:=he.out;refine ⟨fun ds w=>?_⟩;cases u with
 | n =>
  cases t with
  | n =>
   simp at b d;simp [execOp,l ds,Instr.sliceAt,Instr.slice,run_underlying f,Instr.sliceBounds,k.sizeOf];try rfl
  | s h =>
   rename_i y i;simp at b d;have la:i≤(c:Int):=d;simp [execOp,l ds,h ds,Instr.sliceAt,Instr.slice,run_underlying f,Instr.sliceBounds,Instr.sliceBound,asIntOf,k.sizeOf,b,la];try rfl
 | s h =>
  rename_i y i;cases t with
  | n =>
   simp at o b d;simp [execOp,l ds,h ds,Instr.sliceAt,Instr.slice,run_underlying f,Instr.sliceBounds,Instr.sliceBound,asIntOf,k.sizeOf,o,b];try rfl
  | s z =>
   rename_i A p;simp at o b d;have la:0≤p:=by omega
   have e2:(p.toNat:Int)=p:=by omega
   simp [execOp,l ds,h ds,z ds,Instr.sliceAt,Instr.slice,run_underlying f,Instr.sliceBounds,Instr.sliceBound,asIntOf,k.sizeOf,o,b,d,la,e2];try rfl
theorem Sl {x:Operand}{a up:Option Operand}{v b:Value}{Mb:Nat}{i j:Option Int}{e:TypeId}(c:P.underlying T=some (.slice e)) (d:Wc P e qe Uc Mb m) (f:ub fr x v) (h:Jp fr a i) (l:Jp fr up j) (he:du v Mb i j b) (n:Rc fr dst b O) (k:K O ds w):Dc P (Oper.mk dst (.slice T x a up none) ty pos after g) fr ds w K Q:=xe (JB c d f h l he) n k
theorem Va.Xl {α:Type}[nc α]{μ:M}{a:Option Addr}{c:Nat}{xs ys:List α}{i j:Option Int}(h:Va μ a c xs) (g:cut xs (i.getD 0) (j.getD xs.length)=some ys) :
  ∃ e l,du (.slice a xs.length c) (nc.Mb α) i j (.slice e ys.length l)∧Va μ e l ys:=by
 obtain ⟨⟨m,n,s⟩,rfl⟩:=Dr g;have hle:=h.le;refine ⟨(if c=(i.getD 0).toNat then a else a.map (·.add ((i.getD 0).toNat*nc.Mb α))),c - (i.getD 0).toNat,⟨a,xs.length,c,rfl,m,n,by omega,?_⟩,?_⟩
 ·rw [show ((xs.take (j.getD ↑xs.length).toNat).drop (i.getD 0).toNat).length=(j.getD ↑xs.length).toNat - (i.getD 0).toNat by simp;omega]
 ·refine ⟨by simp;omega,by have:=h.cap;omega,?_⟩;rcases h.el with rfl | ⟨b,o,rfl,f,p⟩
  ·left;simp
  ·by_cases q:c=(i.getD 0).toNat
   ·left;rw [List.drop_eq_nil_iff];simp;omega
   ·right;rw [if_neg q];refine ⟨b,o+(i.getD 0).toNat*nc.Mb α,by simp [Xk],fun k=>f ((i.getD 0).toNat+k),fun k x d=>?_⟩;rw [List.getElem?_drop] at d;have r:(i.getD 0).toNat+k<(j.getD ↑xs.length).toNat:=by
     have:=(List.getElem?_eq_some_iff.1 d).1;simp at this;omega
    rw [List.getElem?_take_of_lt r] at d;have:=p _ x d;rw [Nat.add_mul,← Nat.add_assoc] at this;exact this
end
end Go.Kc
namespace Go.Kc
open Go.cc Go.RowKit
section
variable {P:Program}{Q:Exit→Act→World→Prop}{K:List Value→List Deferred→World→Prop}{fr O:List Value}{ds:List Deferred}{w:World}
variable {dst:Option Tmp}{ty:TypeId}{pos:String}{after:Array Edge}{g:Option (Nat×Bool)}
variable {I:World}{rs U:List yb}{μ:M}
variable {T:TypeId}{d:TypeDesc}{qe:Bool}{Uc:List Value}{n m:Nat}
theorem Qx {n x:Int}(h:i64 n=some x):IntKind.i64.wrap n=x:=Ps h
theorem nz {x c up:Operand}{t:TypeId}{a b:List UInt8}{i j:Int}(d:P.underlying t=some .string) (e:ub fr x (S a)) (f:ub fr c (.int .i64 i)) (k:ub fr up (.int .i64 j)) (h:cut a i j=some b):ae P (Oper.mk dst (.slice t x (some c) (some up) none) ty pos after g) fr (S b):=by
 obtain ⟨⟨l,m,n⟩,rfl⟩:=Dr h;exact cA d e f k ⟨l,m,n⟩
theorem Zs {x c up:Operand}{t:TypeId}{a b:List UInt8}{i j:Int}(d:P.underlying t=some .string) (e:ub fr x (S a)) (f:ub fr c (.int .i64 i)) (l:ub fr up (.int .i64 j)) (h:cut a i j=some b) (m:Rc fr dst (S b) O) (k:K O ds w):Dc P (Oper.mk dst (.slice t x (some c) (some up) none) ty pos after g) fr ds w K Q:=xe (nz d e f l h) m k
theorem sy {x c:Operand}{t:TypeId}{a b:List UInt8}{i:Int}(d:P.underlying t=some .string) (e:ub fr x (S a)) (f:ub fr c (.int .i64 i)) (h:cut a i a.length=some b):ae P (Oper.mk dst (.slice t x (some c) none none) ty pos after g) fr (S b):=by
 obtain ⟨⟨j,k,l⟩,rfl⟩:=Dr h;have:=gz (dst:=dst) (ty:=ty) (pos:=pos) (after:=after) (g:=g) d e f ⟨j,k⟩;simpa using this
theorem Qs {x c:Operand}{t:TypeId}{a b:List UInt8}{i:Int}(d:P.underlying t=some .string) (e:ub fr x (S a)) (f:ub fr c (.int .i64 i)) (h:cut a i a.length=some b) (j:Rc fr dst (S b) O) (k:K O ds w):Dc P (Oper.mk dst (.slice t x (some c) none none) ty pos after g) fr ds w K Q:=xe (sy d e f h) j k
theorem Rs {x up:Operand}{t:TypeId}{a b:List UInt8}{j:Int}(c:P.underlying t=some .string) (d:ub fr x (S a)) (e:ub fr up (.int .i64 j)) (h:cut a 0 j=some b):ae P (Oper.mk dst (.slice t x none (some up) none) ty pos after g) fr (S b):=by
 obtain ⟨⟨k,f,i⟩,rfl⟩:=Dr h;have:=hz (dst:=dst) (ty:=ty) (pos:=pos) (after:=after) (g:=g) c d e ⟨f,i⟩;simpa using this
theorem uy {x up:Operand}{t:TypeId}{a b:List UInt8}{j:Int}(c:P.underlying t=some .string) (d:ub fr x (S a)) (e:ub fr up (.int .i64 j)) (h:cut a 0 j=some b) (f:Rc fr dst (S b) O) (k:K O ds w):Dc P (Oper.mk dst (.slice t x none (some up) none) ty pos after g) fr ds w K Q:=xe (Rs c d e h) f k
theorem _root_.Go.cc.Row.tg {v:Value}{Mb n:Nat}{xs:List Value}(h:Row w v T Mb n xs):tg v=true:=by
 rcases h.2 with ⟨rfl,_⟩ | ⟨g,o,cap,cur,rfl,_⟩<;>rfl
theorem mA {f:Nat}{xs ys:List Operand}{vs us:List Value}(a:Wj fr xs vs) (hu:Wj fr ys us):ae P (Oper.mk dst (.makeFunc (.func f) ⟨xs⟩ ⟨ys⟩) ty pos after g) fr (.func (.func f) ⟨vs⟩ ⟨us⟩):=by
 refine ⟨fun ds w=>?_⟩;have b:=a ds;have c:=hu ds;simp [execOp,Instr.makeFunc,b,c]
theorem Rv {f:Nat}{xs ys:List Operand}{vs us:List Value}(a:Wj fr xs vs) (hu:Wj fr ys us) (b:Rc fr dst (.func (.func f) ⟨vs⟩ ⟨us⟩) O) (k:K O ds w):Dc P (Oper.mk dst (.makeFunc (.func f) ⟨xs⟩ ⟨ys⟩) ty pos after g) fr ds w K Q:=xe (mA a hu) b k
theorem ib.app {α:Type}[nc α]{cells news:List Value}{l xs a:List α}(h:ib μ cells l) (k:ib μ news xs) (g:app l xs=some a):ib μ (cells++news) a:=by
 obtain ⟨rfl,-⟩:=pq g;exact ib.cat k h
theorem oz {α:Type}{l xs a:List α}(g:app l xs=some a):a.length=l.length+xs.length∧l.length+xs.length≤4294967296:=by
 obtain ⟨rfl,h⟩:=pq g;exact ⟨by simp,h⟩
theorem jj {α:Type}[nc α]{t:TypeId}{s x:Operand}{v:Value}{bytes k b d c:Nat}{cells news:List Value}{l ys e:List α}(i:P.underlying t=some (.slice T)) (j:Wc P T qe Uc (nc.Mb α) bytes) (m:Uc.length=nc.Mb α)
  (n:ub fr s v) (o:ub fr x (.slice (some ⟨b,0,none⟩) d c)) (p:Ma μ I w rs) (q:Vb rs k (.row v T (nc.Mb α) l.length cells)) (r:ri w b 0 news) (f:ib μ news ys) (hm:ys.length=d) (u:app l ys=some e) (y:bytes≤4096)
  (h:∀ a w' U,jc rs k (.row a T (nc.Mb α) e.length (cells++news)) U→Ma μ I w' U→Kg fr dst a fun O=>K O ds w') :
  Dc P (Oper.mk dst (.call { callee:=.builtin .append,args:=#[s,x],argTypes:=#[t,t] }) ty pos after g) fr ds w K Q:=by
 obtain ⟨z,A⟩:=oz u;subst hm;refine ry i j (by simp [m,nc.pos]) n o p q r f.len f.Ei ⟨A,y⟩ fun a w' U B=>h a w' U (by rw [z];exact B)
theorem _root_.Go.cc.ri.fo {b o:Nat}{cs:List Value}(h:ri w b o cs) (i n:Nat):ri w b (o+i) ((cs.drop i).take n):=by
 intro j v a;have c:j<n:=by
  have:=(List.getElem?_eq_some_iff.1 a).1;simp at this;omega
 rw [List.getElem?_take_of_lt c,List.getElem?_drop] at a;have:=h _ v a;rw [← Nat.add_assoc] at this;exact this
theorem Td.fo {b o:Nat}{cs:List Value}(h:Td μ b o cs) (i n:Nat):Td μ b (o+i) ((cs.drop i).take n):=fun w hw=>(h w hw).fo i n
theorem Ub {x y:Operand}{b k:Nat}{cs vs:List Value}(d:Wc P T qe Uc n m) (e:ub fr x (.pointer (some ⟨b,0,none⟩))) (f:ub fr y (.agg ⟨vs⟩)) (i:vs.length=n) (j:vs.all tg=true)
  {S Z:Nat→Prop}{A:World→Prop}(l:Sep S Z I w rs A) {a:TypeId}(o:Vb rs k (.na b a cs)) (he:cs.length=n) (p:jc rs k (.na b a vs) U)
  (gb:Rc fr dst undef O) (h:∀ w',Sep S Z I w' U A→K O ds w'):Dc P (Oper.mk dst (.store T x y) ty pos after g) fr ds w K Q:=by
 have key:∀ (vs cs pre:List Value),vs.length=cs.length→kc (pre++cs) pre.length vs (pre++vs):=by
  intro vs
  induction vs with
  | nil=>intro cs pre h; cases cs with
   | nil=>exact .z
   | cons c cs=>simp at h
  | cons v vs q =>
   intro cs pre h;cases cs with
   | nil=>simp at h
   | cons c cs =>
    refine .s (cs1:=pre++v::cs) (by unfold jc;simp) (by simp) ?_;have:=q cs (pre++[v]) (by simpa using h);simpa using this
 exact gj d e f rfl i j l o (by simpa using key vs cs [] (by omega)) (by simp) p gb h
theorem wv {pl:Array (Nat×Nat)}{xs:List (Nat×Operand)}{out:List Value}(a:Wc P T qe Uc n m) (b:fi P T pl) (c:lb fr pl Uc xs out):ae P (Oper.mk dst (.build T ⟨xs⟩) ty pos after g) fr (.agg ⟨out⟩):=by
 refine ⟨fun ds w=>?_⟩;obtain ⟨z,d,e⟩:=a.zero (w:=w);have f:=c.run (ds:=ds);obtain ⟨l,h,j⟩:=b.out;have hm:=j w;have k:((⟨xs⟩:Array (Nat×Operand)).map fun (i,x)=>(i,(F fr ds).eval x)).toList=xs.map fun p=>(p.1,(F fr ds).eval p.2):=by simp
 unfold execOp;simp only [Instr.build,Sem.run_bind,d,Result.andThen_ok,run_underlying h];rw [hm];simp only [Result.andThen_ok,e,k];rw [f];simp
end
end Go.Kc
namespace Go.cc
theorem ca {α:Type}{a0 a a2 a3 a4 a5 b c d a9 v:α}{l:List α}{n:Nat}(h:Vb l n v):Vb (a0::a::a2::a3::a4::a5::b::c::d::a9::l) (n+10) v:=h
theorem fa {α:Type}{a0 a a2 a3 a4 a5 b c d a9 v:α}{l e:List α}{n:Nat}(h:jc l n v e):jc (a0::a::a2::a3::a4::a5::b::c::d::a9::l) (n+10) v (a0::a::a2::a3::a4::a5::b::c::d::a9::e):=by unfold jc at *;subst h;rfl
theorem ka {α:Type}{a0 a a2 a3 a4 a5 b c d a9 e f a12 g i j k m o p v:α}{l:List α}{n:Nat}(h:Vb l n v):Vb (a0::a::a2::a3::a4::a5::b::c::d::a9::e::f::a12::g::i::j::k::m::o::p::l) (n+20) v:=h
theorem ma {α:Type}{a0 a a2 a3 a4 a5 b c d a9 e f a12 g i j k m o p v:α}{l q:List α}{n:Nat}(h:jc l n v q):jc (a0::a::a2::a3::a4::a5::b::c::d::a9::e::f::a12::g::i::j::k::m::o::p::l) (n+20) v (a0::a::a2::a3::a4::a5::b::c::d::a9::e::f::a12::g::i::j::k::m::o::p::q):=by unfold jc at *;subst h;rfl
theorem wa {α:Type}{a0 a a2 a3 a4 a5 b c d a9 e f a12 g i j k m o p a20 a21 q r a24 s t u a28 w v:α}{l:List α}{n:Nat}(h:Vb l n v):Vb (a0::a::a2::a3::a4::a5::b::c::d::a9::e::f::a12::g::i::j::k::m::o::p::a20::a21::q::r::a24::s::t::u::a28::w::l) (n+30) v:=h
theorem Aa {α:Type}{a0 a a2 a3 a4 a5 b c d a9 e f a12 g i j k m o p a20 a21 q r a24 s t u a28 w v:α}{l x:List α}{n:Nat}(h:jc l n v x):jc (a0::a::a2::a3::a4::a5::b::c::d::a9::e::f::a12::g::i::j::k::m::o::p::a20::a21::q::r::a24::s::t::u::a28::w::l) (n+30) v (a0::a::a2::a3::a4::a5::b::c::d::a9::e::f::a12::g::i::j::k::m::o::p::a20::a21::q::r::a24::s::t::u::a28::w::x):=by unfold jc at *;subst h;rfl
theorem ua {α:Type}{a0 a a2 a3 a4 a5 b c d a9 e f a12 g i j k m o p a20 a21 q r a24 s t u a28 w x a31 y z A B C a37 D E v:α}{l:List α}{n:Nat}(h:Vb l n v):Vb (a0::a::a2::a3::a4::a5::b::c::d::a9::e::f::a12::g::i::j::k::m::o::p::a20::a21::q::r::a24::s::t::u::a28::w::x::a31::y::z::A::B::C::a37::D::E::l) (n+40) v:=h
theorem Ea {α:Type}{a0 a a2 a3 a4 a5 b c d a9 e f a12 g i j k m o p a20 a21 q r a24 s t u a28 w x a31 y z A B C a37 D E v:α}{l F:List α}{n:Nat}(h:jc l n v F):jc (a0::a::a2::a3::a4::a5::b::c::d::a9::e::f::a12::g::i::j::k::m::o::p::a20::a21::q::r::a24::s::t::u::a28::w::x::a31::y::z::A::B::C::a37::D::E::l) (n+40) v (a0::a::a2::a3::a4::a5::b::c::d::a9::e::f::a12::g::i::j::k::m::o::p::a20::a21::q::r::a24::s::t::u::a28::w::x::a31::y::z::A::B::C::a37::D::E::F):=by unfold jc at *;subst h;rfl
theorem Qa {α:Type}{a0 a a2 a3 a4 a5 b c d a9 e f a12 g i j k m o p a20 a21 q r a24 s t u a28 w x a31 y z A B C a37 D E a40 F G H K L a46 M N a49 v:α}{l:List α}{n:Nat}(h:Vb l n v):Vb (a0::a::a2::a3::a4::a5::b::c::d::a9::e::f::a12::g::i::j::k::m::o::p::a20::a21::q::r::a24::s::t::u::a28::w::x::a31::y::z::A::B::C::a37::D::E::a40::F::G::H::K::L::a46::M::N::a49::l) (n+50) v:=h
theorem Ta {α:Type}{a0 a a2 a3 a4 a5 b c d a9 e f a12 g i j k m o p a20 a21 q r a24 s t u a28 w x a31 y z A B C a37 D E a40 F G H K L a46 M N a49 v:α}{l P:List α}{n:Nat}(h:jc l n v P):jc (a0::a::a2::a3::a4::a5::b::c::d::a9::e::f::a12::g::i::j::k::m::o::p::a20::a21::q::r::a24::s::t::u::a28::w::x::a31::y::z::A::B::C::a37::D::E::a40::F::G::H::K::L::a46::M::N::a49::l) (n+50) v (a0::a::a2::a3::a4::a5::b::c::d::a9::e::f::a12::g::i::j::k::m::o::p::a20::a21::q::r::a24::s::t::u::a28::w::x::a31::y::z::A::B::C::a37::D::E::a40::F::G::H::K::L::a46::M::N::a49::P):=by unfold jc at *;subst h;rfl
theorem Ia {α:Type}{a0 a a2 a3 a4 a5 b c d a9 e f a12 g i j k m o p a20 a21 q r a24 s t u a28 w x a31 y z A B C a37 D E a40 F G H K L a46 M N a49 P a51 Q a53 R S T V W a59 v:α}{l:List α}{n:Nat}(h:Vb l n v):Vb (a0::a::a2::a3::a4::a5::b::c::d::a9::e::f::a12::g::i::j::k::m::o::p::a20::a21::q::r::a24::s::t::u::a28::w::x::a31::y::z::A::B::C::a37::D::E::a40::F::G::H::K::L::a46::M::N::a49::P::a51::Q::a53::R::S::T::V::W::a59::l) (n+60) v:=h
theorem Ya {α:Type}{a0 a a2 a3 a4 a5 b c d a9 e f a12 g i j k m o p a20 a21 q r a24 s t u a28 w x a31 y z A B C a37 D E a40 F G H K L a46 M N a49 P a51 Q a53 R S T V W a59 v:α}{l X:List α}{n:Nat}(h:jc l n v X):jc (a0::a::a2::a3::a4::a5::b::c::d::a9::e::f::a12::g::i::j::k::m::o::p::a20::a21::q::r::a24::s::t::u::a28::w::x::a31::y::z::A::B::C::a37::D::E::a40::F::G::H::K::L::a46::M::N::a49::P::a51::Q::a53::R::S::T::V::W::a59::l) (n+60) v (a0::a::a2::a3::a4::a5::b::c::d::a9::e::f::a12::g::i::j::k::m::o::p::a20::a21::q::r::a24::s::t::u::a28::w::x::a31::y::z::A::B::C::a37::D::E::a40::F::G::H::K::L::a46::M::N::a49::P::a51::Q::a53::R::S::T::V::W::a59::X):=by unfold jc at *;subst h;rfl
theorem jb {α:Type}{a0 a a2 a3 a4 a5 b c d a9 e f a12 g i j k m o p a20 a21 q r a24 s t u a28 w x a31 y z A B C a37 D E a40 F G H K L a46 M N a49 P a51 Q a53 R S T V W a59 X Y gc lc rc fd id md rd wd v:α}{l:List α}{n:Nat}(h:Vb l n v):Vb (a0::a::a2::a3::a4::a5::b::c::d::a9::e::f::a12::g::i::j::k::m::o::p::a20::a21::q::r::a24::s::t::u::a28::w::x::a31::y::z::A::B::C::a37::D::E::a40::F::G::H::K::L::a46::M::N::a49::P::a51::Q::a53::R::S::T::V::W::a59::X::Y::gc::lc::rc::fd::id::md::rd::wd::l) (n+70) v:=h
theorem Za {α:Type}{a0 a a2 a3 a4 a5 b c d a9 e f a12 g i j k m o p a20 a21 q r a24 s t u a28 w x a31 y z A B C a37 D E a40 F G H K L a46 M N a49 P a51 Q a53 R S T V W a59 X Y gc lc rc fd id md rd wd v:α}{l Fd:List α}{n:Nat}(h:jc l n v Fd):jc (a0::a::a2::a3::a4::a5::b::c::d::a9::e::f::a12::g::i::j::k::m::o::p::a20::a21::q::r::a24::s::t::u::a28::w::x::a31::y::z::A::B::C::a37::D::E::a40::F::G::H::K::L::a46::M::N::a49::P::a51::Q::a53::R::S::T::V::W::a59::X::Y::gc::lc::rc::fd::id::md::rd::wd::l) (n+70) v (a0::a::a2::a3::a4::a5::b::c::d::a9::e::f::a12::g::i::j::k::m::o::p::a20::a21::q::r::a24::s::t::u::a28::w::x::a31::y::z::A::B::C::a37::D::E::a40::F::G::H::K::L::a46::M::N::a49::P::a51::Q::a53::R::S::T::V::W::a59::X::Y::gc::lc::rc::fd::id::md::rd::wd::Fd):=by unfold jc at *;subst h;rfl
theorem vb {α:Type}{a0 a a2 a3 a4 a5 b c d a9 e f a12 g i j k m o p a20 a21 q r a24 s t u a28 w x a31 y z A B C a37 D E a40 F G H K L a46 M N a49 P a51 Q a53 R S T V W a59 X Y gc lc rc fd id md rd wd a70 Fd a72 Id be a75 a76 ce ge he v:α}{l:List α}{n:Nat}(h:Vb l n v):Vb (a0::a::a2::a3::a4::a5::b::c::d::a9::e::f::a12::g::i::j::k::m::o::p::a20::a21::q::r::a24::s::t::u::a28::w::x::a31::y::z::A::B::C::a37::D::E::a40::F::G::H::K::L::a46::M::N::a49::P::a51::Q::a53::R::S::T::V::W::a59::X::Y::gc::lc::rc::fd::id::md::rd::wd::a70::Fd::a72::Id::be::a75::a76::ce::ge::he::l) (n+80) v:=h
theorem wb {α:Type}{a0 a a2 a3 a4 a5 b c d a9 e f a12 g i j k m o p a20 a21 q r a24 s t u a28 w x a31 y z A B C a37 D E a40 F G H K L a46 M N a49 P a51 Q a53 R S T V W a59 X Y gc lc rc fd id md rd wd a70 Fd a72 Id be a75 a76 ce ge he v:α}{l le:List α}{n:Nat}(h:jc l n v le):jc (a0::a::a2::a3::a4::a5::b::c::d::a9::e::f::a12::g::i::j::k::m::o::p::a20::a21::q::r::a24::s::t::u::a28::w::x::a31::y::z::A::B::C::a37::D::E::a40::F::G::H::K::L::a46::M::N::a49::P::a51::Q::a53::R::S::T::V::W::a59::X::Y::gc::lc::rc::fd::id::md::rd::wd::a70::Fd::a72::Id::be::a75::a76::ce::ge::he::l) (n+80) v (a0::a::a2::a3::a4::a5::b::c::d::a9::e::f::a12::g::i::j::k::m::o::p::a20::a21::q::r::a24::s::t::u::a28::w::x::a31::y::z::A::B::C::a37::D::E::a40::F::G::H::K::L::a46::M::N::a49::P::a51::Q::a53::R::S::T::V::W::a59::X::Y::gc::lc::rc::fd::id::md::rd::wd::a70::Fd::a72::Id::be::a75::a76::ce::ge::he::le):=by unfold jc at *;subst h;rfl
theorem Nb {α:Type}{a0 a a2 a3 a4 a5 b c d a9 e f a12 g i j k m o p a20 a21 q r a24 s t u a28 w x a31 y z A B C a37 D E a40 F G H K L a46 M N a49 P a51 Q a53 R S T V W a59 X Y gc lc rc fd id md rd wd a70 Fd a72 Id be a75 a76 ce ge he a80 le ne Ne of a85 wf a87 If dg v:α}{l:List α}{n:Nat}(h:Vb l n v):Vb (a0::a::a2::a3::a4::a5::b::c::d::a9::e::f::a12::g::i::j::k::m::o::p::a20::a21::q::r::a24::s::t::u::a28::w::x::a31::y::z::A::B::C::a37::D::E::a40::F::G::H::K::L::a46::M::N::a49::P::a51::Q::a53::R::S::T::V::W::a59::X::Y::gc::lc::rc::fd::id::md::rd::wd::a70::Fd::a72::Id::be::a75::a76::ce::ge::he::a80::le::ne::Ne::of::a85::wf::a87::If::dg::l) (n+90) v:=h
theorem Tb {α:Type}{a0 a a2 a3 a4 a5 b c d a9 e f a12 g i j k m o p a20 a21 q r a24 s t u a28 w x a31 y z A B C a37 D E a40 F G H K L a46 M N a49 P a51 Q a53 R S T V W a59 X Y gc lc rc fd id md rd wd a70 Fd a72 Id be a75 a76 ce ge he a80 le ne Ne of a85 wf a87 If dg v:α}{l rg:List α}{n:Nat}(h:jc l n v rg):jc (a0::a::a2::a3::a4::a5::b::c::d::a9::e::f::a12::g::i::j::k::m::o::p::a20::a21::q::r::a24::s::t::u::a28::w::x::a31::y::z::A::B::C::a37::D::E::a40::F::G::H::K::L::a46::M::N::a49::P::a51::Q::a53::R::S::T::V::W::a59::X::Y::gc::lc::rc::fd::id::md::rd::wd::a70::Fd::a72::Id::be::a75::a76::ce::ge::he::a80::le::ne::Ne::of::a85::wf::a87::If::dg::l) (n+90) v (a0::a::a2::a3::a4::a5::b::c::d::a9::e::f::a12::g::i::j::k::m::o::p::a20::a21::q::r::a24::s::t::u::a28::w::x::a31::y::z::A::B::C::a37::D::E::a40::F::G::H::K::L::a46::M::N::a49::P::a51::Q::a53::R::S::T::V::W::a59::X::Y::gc::lc::rc::fd::id::md::rd::wd::a70::Fd::a72::Id::be::a75::a76::ce::ge::he::a80::le::ne::Ne::of::a85::wf::a87::If::dg::rg):=by unfold jc at *;subst h;rfl
theorem bb {α:Type}{a0 a a2 a3 a4 a5 b c d a9 e f a12 g i j k m o p a20 a21 q r a24 s t u a28 w x a31 y z A B C a37 D E a40 F G H K L a46 M N a49 P a51 Q a53 R S T V W a59 X Y gc lc rc fd id md rd wd a70 Fd a72 Id be a75 a76 ce ge he a80 le ne Ne of a85 wf a87 If dg rg a91 bi a93 ci ii li pi Pi kk v:α}{l:List α}{n:Nat}(h:Vb l n v):Vb (a0::a::a2::a3::a4::a5::b::c::d::a9::e::f::a12::g::i::j::k::m::o::p::a20::a21::q::r::a24::s::t::u::a28::w::x::a31::y::z::A::B::C::a37::D::E::a40::F::G::H::K::L::a46::M::N::a49::P::a51::Q::a53::R::S::T::V::W::a59::X::Y::gc::lc::rc::fd::id::md::rd::wd::a70::Fd::a72::Id::be::a75::a76::ce::ge::he::a80::le::ne::Ne::of::a85::wf::a87::If::dg::rg::a91::bi::a93::ci::ii::li::pi::Pi::kk::l) (n+100) v:=h
theorem hb {α:Type}{a0 a a2 a3 a4 a5 b c d a9 e f a12 g i j k m o p a20 a21 q r a24 s t u a28 w x a31 y z A B C a37 D E a40 F G H K L a46 M N a49 P a51 Q a53 R S T V W a59 X Y gc lc rc fd id md rd wd a70 Fd a72 Id be a75 a76 ce ge he a80 le ne Ne of a85 wf a87 If dg rg a91 bi a93 ci ii li pi Pi kk v:α}{l mk:List α}{n:Nat}(h:jc l n v mk):jc (a0::a::a2::a3::a4::a5::b::c::d::a9::e::f::a12::g::i::j::k::m::o::p::a20::a21::q::r::a24::s::t::u::a28::w::x::a31::y::z::A::B::C::a37::D::E::a40::F::G::H::K::L::a46::M::N::a49::P::a51::Q::a53::R::S::T::V::W::a59::X::Y::gc::lc::rc::fd::id::md::rd::wd::a70::Fd::a72::Id::be::a75::a76::ce::ge::he::a80::le::ne::Ne::of::a85::wf::a87::If::dg::rg::a91::bi::a93::ci::ii::li::pi::Pi::kk::l) (n+100) v (a0::a::a2::a3::a4::a5::b::c::d::a9::e::f::a12::g::i::j::k::m::o::p::a20::a21::q::r::a24::s::t::u::a28::w::x::a31::y::z::A::B::C::a37::D::E::a40::F::G::H::K::L::a46::M::N::a49::P::a51::Q::a53::R::S::T::V::W::a59::X::Y::gc::lc::rc::fd::id::md::rd::wd::a70::Fd::a72::Id::be::a75::a76::ce::ge::he::a80::le::ne::Ne::of::a85::wf::a87::If::dg::rg::a91::bi::a93::ci::ii::li::pi::Pi::kk::mk):=by unfold jc at *;subst h;rfl
end Go.cc
namespace Go.cc
open Go.RowKit
section
variable {P:Program}{Q:Exit→Act→World→Prop}{K:List Value→List Deferred→World→Prop}{fr O:List Value}{ds:List Deferred}{w:World}
variable {dst:Option Tmp}{ty:TypeId}{pos:String}{after:Array Edge}{g:Option (Nat×Bool)}
variable {S Z:Nat→Prop}{I:World}{rs U:List yb}{A:World→Prop}
variable {T:TypeId}
inductive xi:TypeDesc→Value→Prop where
 | str (l:List UInt8):xi .string (cc.S l)
 | int (k:IntKind) (n:Int):xi (.int k) (.int k n)
def Oh:Value→Value→Bool
 | .string a,.string b=>decide (a.data.toList=b.data.toList)
 | .int _ a,.int _ b=>decide (a=b)
 | _,_=>false
def Gk (es:List MapEntry) (k:Value):Option (Nat×Value):=(es.zipIdx.find? fun e=>Oh k e.1.key).map fun e=>(e.2,e.1.val)
theorem vx {d:TypeDesc}{k:Value}(a:xi d k):∀ (es:List MapEntry) (i:Nat),(∀ e ∈ es,xi d e.key)→Instr.findNow d k es i=some (((es.zipIdx i).find? fun e=>Oh k e.1.key).map fun e=>(e.2,e.1.val)):=by
 intro es
 induction es with
 | nil=>intro i _; simp [Instr.findNow]
 | cons e es b =>
  intro i h;have he:=h e (by simp);have c:=b (i+1) fun x f=>h x (by simp [f]);simp only [Instr.findNow,List.zipIdx_cons,List.find?_cons];have g:Instr.sameNow d k e.key=some (Oh k e.key):=by
   generalize e.key=j at he;cases a with
   | str l =>
    cases he with
    | str m =>
     simp only [Instr.sameNow,cc.S,Oh];congr 1;rw [Bool.eq_iff_iff,Ns];simp
   | int kk n =>
    cases he with
    | int _ o =>
     simp only [Instr.sameNow,if_true,Oh];congr 1
  rw [g];cases p:Oh k e.key with
  | true=>simp
  | false=>exact c
theorem run_findKey {Jf:TypeId}{d:TypeDesc}{k:Value}{es:List MapEntry}(a:P.underlying Jf=some d) (b:xi d k) (he:∀ e ∈ es,xi d e.key):(Instr.findKey Jf k es).run P w=.ok (Gk es k) w:=by
 unfold Instr.findKey Gk;simp only [Sem.run_bind,run_underlying a,Result.andThen_ok,vx b es 0 he];rfl
theorem run_checkKey {Jf:TypeId}{d:TypeDesc}{k:Value}{b:Bool}(a:P.underlying Jf=some d) (c:xi d k):(Instr.checkKey b 10000 Jf k).run P w=.ok () w:=by
 show (Instr.checkKey b (9999+1) Jf k).run P w=_;unfold Instr.checkKey;simp only [Sem.run_bind,run_underlying a,Result.andThen_ok];cases c<;>rfl
theorem Jn (a:Sep S Z I w rs A) (h:∀ b w',w.heap.size≤b→Sep S Z I w' (.map b [] 0::rs) A→Kg fr dst (.map (some b)) fun O=>K O ds w'):Dc P (Oper.mk dst (.makeMap T none) ty pos after g) fr ds w K Q:=by
 obtain ⟨O,gb⟩:=xh fr dst (.map (some w.heap.size));refine ug (v:=.map (some w.heap.size)) (w':=w.alloc (.map #[] 0)) ?_ gb (h _ _ (Nat.le_refl _) (a.alloc rfl (heap_alloc_new w _)) O gb);simp [execOp,Instr.makeMap]
def vp (es:List MapEntry) (k z:Value):Value:=(Gk es k).elim z (·.2)
def putAt (es:List MapEntry) (c:Nat) (k v:Value):List MapEntry:=match Gk es k with
 | some (i,_)=>es.modify i fun e=>{ e with key:=k,val:=v }
 | none=>es++[{ key:=k,val:=v,born:=c }]
def Zn (es:List MapEntry) (c:Nat) (k:Value):Nat:=match Gk es k with
 | some _=>c
 | none=>c+1
theorem wx {es:List MapEntry}{k v:Value}{i:Nat}(h:Gk es k=some (i,v)):∃ e,es[i]?=some e∧Oh k e.key=true∧e.val=v:=by
 unfold Gk at h;cases a:es.zipIdx.find? fun e=>Oh k e.1.key with
 | none=>rw [a] at h; cases h
 | some x =>
  rw [a] at h;simp only [Option.map_some,Option.some.injEq,Prod.mk.injEq] at h;obtain ⟨rfl,rfl⟩:=h;have b:=List.find?_some (p:=fun e:MapEntry×Nat=>Oh k e.1.key) a;have c:=List.mem_of_find?_eq_some a;exact ⟨x.1,by have:=List.mem_zipIdx_iff_getElem?.1 c;simpa using this,b,rfl⟩
theorem Rx {d:TypeDesc}{k a:Value}(c:xi d k) (b:xi d a) (h:Oh k a=true):Instr.sameBits 10000 a k=true:=by
 cases c with
 | str l =>
  cases b with
  | str e =>
   simp [Oh,cc.S] at h;subst h;simp only [Instr.sameBits,cc.S];exact (Ns _ _).2 rfl
 | int kk n =>
  cases b with
  | int _ f =>
   simp [Oh] at h;subst h;simp [Instr.sameBits]
theorem nA {x y z:Operand}{Jf aa:TypeId}{d:TypeDesc}{df v:Value}{b c k:Nat}{es:List MapEntry}(m:P.underlying T=some (.map Jf aa)) (n:P.underlying Jf=some d) (o:ub fr x (.map (some b))) (p:ub fr y df) (a:xi d df) (q:ub fr z v)
  (r:Sep S Z I w rs A) (s:Vb rs k (.map b es c)) (he:∀ e ∈ es,xi d e.key)
  (gb:Rc fr dst undef O) (h:∀ w' U,jc rs k (.map b (putAt es c df v) (Zn es c df)) U→Sep S Z I w' U A→K O ds w'):Dc P (Oper.mk dst (.mapUpdate T x y z) ty pos after g) fr ds w K Q:=by
 have f:w.heap[b]?=some (.map ⟨es⟩ c):=r.get s;have D:b<w.heap.size:=(Array.getElem?_eq_some_iff.1 f).1
 let w':World:={ w with heap:=w.heap.setIfInBounds b (.map ⟨putAt es c df v⟩ (Zn es c df)) }
 have E:zg (fun k=>k≠b) w w':=⟨rfl,rfl,rfl,by simp [w'],fun j _ F=>by simp [w',Array.getElem?_setIfInBounds,Ne.symm F]⟩;have G:=r.put (b:=b) (r':=.map b (putAt es c df v) (Zn es c df)) (w':=w') s rfl rfl rfl (by show w'.heap[b]?=_;simp [w',D]) E;have t:=run_checkKey (P:=P) (w:=w) (b:=false) n a;have B:=run_findKey (P:=P) (w:=w) n a he;refine Iw (w':=w') ?_ gb (h w' _ rfl G);cases l:Gk es df with
 | none=>simp [execOp,o ds,p ds,q ds,Instr.mapUpdate,run_underlying m,getObj,setObj,Sem.run,f,Result.andThen,t,B,l,w',putAt,Zn]
 | some e =>
  obtain ⟨i,u⟩:=e;obtain ⟨e,C,H,-⟩:=wx l;have L:=Rx a (he e (List.mem_of_getElem? C)) H;simp [execOp,o ds,p ds,q ds,Instr.mapUpdate,run_underlying m,getObj,setObj,Sem.run,f,Result.andThen,t,B,l,C,Instr.keyThatStays,L,w',putAt,Zn]
theorem vy {x:Operand}{Jf aa:TypeId}{m c k:Nat}{es:List MapEntry}(d:P.underlying T=some (.map Jf aa)) (e:ub fr x (.map (some m))) (a:Sep S Z I w rs A) (f:Vb rs k (.map m es c))
  (h:∀ b w',w.heap.size≤b→Sep S Z I w' (.Ti b m c [] c::rs) A→Kg fr dst (.pointer (some ⟨b,0,none⟩)) fun O=>K O ds w'):Dc P (Oper.mk dst (.range T x) ty pos after g) fr ds w K Q:=by
 have i:w.heap[m]?=some (.map ⟨es⟩ c):=a.get f;obtain ⟨O,gb⟩:=xh fr dst (.pointer (some ⟨w.heap.size,0,none⟩));refine ug (v:=.pointer (some ⟨w.heap.size,0,none⟩)) (w':=w.alloc (.mapIter (some m) c #[] c)) ?_ gb (h _ _ (Nat.le_refl _) (a.alloc rfl (heap_alloc_new w _)) O gb);simp [execOp,e ds,Instr.range,run_underlying d,getObj,Sem.run,i,Result.andThen]
end
end Go.cc
namespace Go.Kc
open Go.cc Go.RowKit
section
variable {P:Program}{Q:Exit→Act→World→Prop}{K:List Value→List Deferred→World→Prop}{fr O:List Value}{ds:List Deferred}{w:World}
variable {dst:Option Tmp}{ty:TypeId}{pos:String}{after:Array Edge}{g:Option (Nat×Bool)}
variable {I:World}{rs U:List yb}{μ J:M}
variable {T:TypeId}{d:TypeDesc}{qe:Bool}{Uc:List Value}{n m:Nat}
theorem pz {x y:Operand}{Jf aa:TypeId}{d:TypeDesc}{df z:Value}{b c:Nat}{es:List MapEntry}(a:P.underlying T=some (.map Jf aa)) (f:P.underlying Jf=some d) (i:ub fr x (.map (some b))) (j:ub fr y df) (k:xi d df)
  (p:∀ w,(zeroValue aa).run P w=.ok z w) (l:w.heap[b]?=some (.map ⟨es⟩ c)) (he:∀ e ∈ es,xi d e.key)
  (q:Rc fr dst (vp es df z) O) (h:K O ds w):Dc P (Oper.mk dst (.lookup T x y false) ty pos after g) fr ds w K Q:=by
 refine ug (w':=w) ?_ q h;have m:=run_checkKey (w:=w) (b:=es.isEmpty) f k;have n:=run_findKey (w:=w) f k he;cases o:Gk es df with
 | none=>simp [execOp,i ds,j ds,Instr.lookup,run_underlying a,getObj,Sem.run,l,Result.andThen,m,n,o,p w,vp]
 | some e=>simp [execOp,i ds,j ds,Instr.lookup,run_underlying a,getObj,Sem.run,l,Result.andThen,m,n,o,vp]
class Fb (κ:Type) [DecidableEq κ] where
 key:κ→Value
 Sf:TypeDesc
 Jf:∀ k,xi Sf (key k)
 eq:∀ a b,Oh (key a) (key b)=decide (a=b)
instance:Fb (List UInt8) where
 key:=S
 Sf:=.string
 Jf:=.str
 eq a b:=by simp [Oh,S]
class gi (β:Type) where
 uj:M→Value→β→Prop
 up:∀ {μ J:M}{v:Value}{x:β},ra μ J→uj μ v x→uj J v x
instance:gi Int where
 uj _ v x:=v=.int .i64 x
 up _ h:=h
def Ef {κ β:Type}[DecidableEq κ]:List (κ×β)→κ→Option β
 | [],_=>none
 | (a,b)::m,k=>if a=k then some b else Ef m k
def ed {κ β:Type}[DecidableEq κ]:List (κ×β)→κ→β→List (κ×β)
 | [],k,x=>[(k,x)]
 | (a,b)::m,k,x=>if a=k then (k,x)::m else (a,b)::ed m k x
def Ze {κ β:Type}[DecidableEq κ] [Fb κ] [gi β] (μ:M):List MapEntry→List (κ×β)→Prop
 | [],m=>m=[]
 | e::es,m=>∃ k x t,m=(k,x)::t∧e.key=Fb.key k∧gi.uj μ e.val x∧Ze μ es t
structure kg {κ β:Type}[DecidableEq κ] [Fb κ] [gi β] (μ:M) (es:List MapEntry) (c:Nat) (m:List (κ×β)):Prop where
 df:Ze μ es m
 lt:∀ e ∈ es,e.born<c
 inc:es.Pairwise fun a b=>a.born<b.born
variable {κ β:Type}[DecidableEq κ] [Fb κ] [gi β]
theorem Ze.up (l:ra μ J):∀ {es:List MapEntry}{m:List (κ×β)},Ze μ es m→Ze J es m
 | [],m,h=>by rw [Ze] at h ⊢; exact h
 | e::es,m,h=>by
  rw [Ze] at h ⊢;obtain ⟨k,x,t,a,b,c,d⟩:=h;exact ⟨k,x,t,a,b,gi.up l c,Ze.up l d⟩
theorem kg.up {es:List MapEntry}{c:Nat}{m:List (κ×β)}(h:kg μ es c m) (l:ra μ J):kg J es c m:=⟨h.df.up l,h.lt,h.inc⟩
theorem Ze.keys:∀ {es:List MapEntry}{m:List (κ×β)},Ze μ es m→∀ e ∈ es,xi (Fb.Sf (κ:=κ)) e.key
 | [],m,_,e,he=>by cases he
 | e::es,m,h,a,he=>by
  rw [Ze] at h;obtain ⟨k,x,t,d,b,f,c⟩:=h;rcases List.mem_cons.1 he with rfl | he
  ·rw [b];exact Fb.Jf k
  ·exact Ze.keys c a he
def qj (df:Value):List MapEntry→Option (Nat×Value)
 | []=>none
 | e::es=>if Oh df e.key then some (0,e.val) else (qj df es).map fun p=>(p.1+1,p.2)
theorem xv (df:Value):∀ (es:List MapEntry) (i:Nat),(((es.zipIdx i).find? fun e=>Oh df e.1.key).map fun e=>(e.2,e.1.val))=(qj df es).map fun p=>(p.1+i,p.2)
 | [],i=>rfl
 | e::es,i=>by
  rw [List.zipIdx_cons,List.find?_cons,qj];cases h:Oh df e.key with
  | true=>simp
  | false =>
   simp only [Bool.false_eq_true,if_false];rw [xv df es (i+1),Option.map_map];congr 1;funext p;simp;omega
theorem Lu (es:List MapEntry) (df:Value):Gk es df=qj df es:=by
 unfold Gk;rw [xv];cases qj df es<;>simp
theorem Ze.look:∀ {es:List MapEntry}{m:List (κ×β)},Ze μ es m→∀ k:κ,(match qj (Fb.key k) es with | none=>Ef m k=none | some p=>∃ x,Ef m k=some x∧gi.uj μ p.2 x)
 | [],m,h,k=>by rw [Ze] at h; subst h; rfl
 | e::es,m,h,k=>by
  rw [Ze] at h;obtain ⟨d,x,t,rfl,f,g,i⟩:=h;rw [qj,Ef,f,Fb.eq];have a:=Ze.look i k;by_cases b:k=d
  ·subst b;simp;exact g
  ·rw [if_neg (by simpa using b),if_neg (fun e=>b e.symm)];cases c:qj (Fb.key k) es with
   | none=>rw [c] at a; exact a
   | some p=>rw [c] at a; exact a
theorem Ze.get {es:List MapEntry}{m:List (κ×β)}(h:Ze μ es m) (k:κ){z:Value}{zx:β}(b:gi.uj μ z zx):gi.uj μ (vp es (Fb.key k) z) ((Ef m k).getD zx):=by
 have:=h.look k;unfold vp;rw [Lu];cases a:qj (Fb.key k) es with
 | none=>rw [a] at this; simp only at this; rw [this]; exact b
 | some p=>rw [a] at this; obtain ⟨x,c,d⟩:=this; rw [c]; exact d
theorem Ze.put:∀ {es:List MapEntry}{m:List (κ×β)},Ze μ es m→∀ (k:κ){v:Value}{x:β},gi.uj μ v x→∀ c,Ze μ (match qj (Fb.key k) es with | some (i,_)=>es.modify i fun e=>{ e with key:=Fb.key k,val:=v } | none=>es++[{ key:=Fb.key k,val:=v,born:=c }]) (ed m k x)
 | [],m,h,k,v,x,a,c=>by
  rw [Ze] at h;subst h;exact ⟨k,x,[],rfl,rfl,a,rfl⟩
 | e::es,m,h,k,v,x,a,c=>by
  rw [Ze] at h;obtain ⟨d,j,t,rfl,f,l,n⟩:=h;rw [qj,ed,f,Fb.eq];have b:=Ze.put n k a c;by_cases g:k=d
  ·subst g;simp;exact ⟨k,x,t,rfl,rfl,a,n⟩
  ·rw [if_neg (by simpa using g),if_neg (fun e=>g e.symm)];cases o:qj (Fb.key k) es with
   | none=>rw [o] at b; exact ⟨d,j,_,rfl,f,l,b⟩
   | some p=>rw [o] at b; exact ⟨d,j,_,rfl,f,l,b⟩
theorem kg.put {es:List MapEntry}{c:Nat}{m:List (κ×β)}(h:kg μ es c m) (k:κ){v:Value}{x:β}(o:gi.uj μ v x):kg μ (putAt es c (Fb.key k) v) (Zn es c (Fb.key k)) (ed m k x):=by
 have d:=h.df.put k o c;have la:∀ i,(es.modify i fun e=>{ e with key:=Fb.key k,val:=v }).map (·.born)=es.map (·.born):=by
  intro i;refine List.ext_getElem (by simp) fun j y z=>?_;simp only [List.getElem_map,List.getElem_modify];split<;>rfl
 have q:∀ l:List MapEntry,l.map (·.born)=es.map (·.born)→∀ e ∈ l,e.born<c:=fun l g e he=>by
  have hm:e.born ∈ es.map (·.born):=g ▸ List.mem_map_of_mem he;obtain ⟨r,s,f⟩:=List.mem_map.1 hm;rw [← f];exact h.lt r s
 have t:∀ l:List MapEntry,l.map (·.born)=es.map (·.born)→l.Pairwise fun a b=>a.born<b.born:=fun l g=>by
  have:(es.map (·.born)).Pairwise (·<·):=List.pairwise_map.2 h.inc;rw [← g] at this;exact List.pairwise_map.1 this
 unfold putAt Zn;rw [Lu];cases n:qj (Fb.key k) es with
 | some p =>
  obtain ⟨i,u⟩:=p;rw [n] at d;exact ⟨d,q _ (la i),t _ (la i)⟩
 | none =>
  rw [n] at d;refine ⟨d,fun e he=>?_,?_⟩
  ·rcases List.mem_append.1 he with he | he
   ·exact Nat.lt_succ_of_lt (h.lt e he)
   ·simp at he;subst he;exact Nat.lt_succ_self _
  ·rw [List.pairwise_append];refine ⟨h.inc,by simp,fun a w b f=>?_⟩;simp at f;subst f;exact h.lt a w
theorem kg.nil {c:Nat}:kg (κ:=κ) (β:=β) μ [] c []:=⟨rfl,by simp,by simp⟩
def Oq (μ:M) (b:Nat) (m:List (κ×β)):Prop:=∃ es c,(∀ w,μ w→w.heap[b]?=some (.map ⟨es⟩ c))∧kg μ es c m
theorem Oq.up {b:Nat}{m:List (κ×β)}(h:Oq μ b m) (l:ra μ J):Oq J b m:=by
 obtain ⟨es,c,a,d⟩:=h;exact ⟨es,c,fun w hw=>a w (l w hw),d.up l⟩
theorem _root_.Go.cc.Sep.qq {b c:Nat}{es:List MapEntry}{m:List (κ×β)}(h:Ma μ I w (.map b es c::rs)) (hm:kg μ es c m):∃ J,ra μ J∧Oq J b m∧Ma J I w rs :=
 ⟨_,fun _ hw=>hw.1,⟨es,c,fun _ hw=>hw.2,hm.up fun _ hw=>hw.1⟩,Sep.cu (B:=fun w=>w.heap[b]?=some (.map ⟨es⟩ c)) h fun _ hw=>hw⟩
theorem bt {x y:Operand}{Jf aa:TypeId}{z:Value}{b c:Nat}{es:List MapEntry}{m:List (κ×β)}{k:κ}{zx:β}(a:P.underlying T=some (.map Jf aa)) (d:P.underlying Jf=some (Fb.Sf (κ:=κ))) (e:ub fr x (.map (some b))) (f:ub fr y (Fb.key k))
  (i:∀ w,(zeroValue aa).run P w=.ok z w) (j:gi.uj μ z zx) (l:w.heap[b]?=some (.map ⟨es⟩ c)) (he:kg μ es c m)
  (h:∀ v,gi.uj μ v ((Ef m k).getD zx)→Kg fr dst v fun O=>K O ds w):Dc P (Oper.mk dst (.lookup T x y false) ty pos after g) fr ds w K Q:=by
 obtain ⟨O,gb⟩:=xh fr dst (vp es (Fb.key k) z);refine pz a d e f (Fb.Jf k) i l he.df.keys gb ?_;exact h _ (he.df.get k j) O gb
theorem KB {aa:TypeId}{z:Value}(h:(P.info? aa).map (fun i=>i.zero)=some (some z)):∀ w,(zeroValue aa).run P w=.ok z w:=fun w=>by
 cases a:P.info? aa with
 | none=>rw [a] at h; cases h
 | some i =>
  rw [a] at h;simp only [Option.map_some,Option.some.injEq] at h;simp [zeroValue,typeInfo,a,h]
theorem qz {x y z:Operand}{Jf aa:TypeId}{v:Value}{b c k:Nat}{es:List MapEntry}{kk:κ}{m:List (κ×β)}{xx:β}(e:P.underlying T=some (.map Jf aa)) (f:P.underlying Jf=some (Fb.Sf (κ:=κ))) (i:ub fr x (.map (some b))) (j:ub fr y (Fb.key kk)) (l:ub fr z v) (n:gi.uj μ v xx)
  (o:Ma μ I w rs) (p:Vb rs k (.map b es c)) (he:kg μ es c m)
  (gb:Rc fr dst undef O) (h:∀ a d w' U,kg μ a d (ed m kk xx)→jc rs k (.map b a d) U→Ma μ I w' U→K O ds w'):Dc P (Oper.mk dst (.mapUpdate T x y z) ty pos after g) fr ds w K Q :=
 nA e f i j (Fb.Jf kk) l o p he.df.keys gb fun w' U=>h _ _ w' U (he.put kk n)
theorem Pg {x y z:Operand}{Jf aa:TypeId}{v:Value}{b c k:Nat}{es:List MapEntry}{kk:κ}{m:List (κ×β)}{xx:β}(e:P.underlying T=some (.map Jf aa)) (f:P.underlying Jf=some (Fb.Sf (κ:=κ))) (i:ub fr x (.map (some b))) (j:ub fr y (Fb.key kk)) (l:ub fr z v) (n:gi.uj μ v xx)
  (o:Ma μ I w rs) (p:Vb rs k (.map b es c)) (he:kg μ es c m)
  (gb:Rc fr dst undef O) (h:∀ a d w' U,kg μ a d (ed m kk xx)→jc rs k (.map b a d) U→Ma μ I w' U→K O ds w'):Dc P (Oper.mk dst (.insert T x y z) ty pos after g) fr ds w K Q :=
 ⟨fun q r=>(qz (dst:=dst) (ty:=ty) (pos:=pos) (after:=after) (g:=g) e f i j l n o p he gb h).out q r⟩
end
end Go.Kc
namespace Go.cc
abbrev Lg (m:List Fb):List Fb:=.k::m
abbrev Od (s:Nat) (m:List Fb):List Fb:=.o s::m
theorem Hd {m:List Fb}{a0:Value}{l a:List Value}(h:mc m l a):mc (Lg m) (a0::l) (a0::a):=(.k h)
theorem Yb {m:List Fb}{s:Nat}{a0 b:Value}{l a:List Value}(h:mc m l a):mc (Od s m) (a0::l) (b::a):=(.o h)
theorem fh {t:Nat→Value}{m:List Fb}{a0:Value}{l a:List Value}(h:ld t m l a):ld t (Lg m) (a0::l) (a0::a):=(mk h)
theorem Rd {t:Nat→Value}{m:List Fb}{s:Nat}{a0:Value}{l a:List Value}(h:ld t m l a):ld t (Od s m) (a0::l) (t s::a):=(Jb h)
abbrev we (m:List Fb):List Fb:=.k::.k::m
abbrev He (s:Nat) (m:List Fb):List Fb:=.o s::.o (s+1)::m
theorem Bc {m:List Fb}{a0 a:Value}{l b:List Value}(h:mc m l b):mc (we m) (a0::a::l) (a0::a::b):=(.k (.k h))
theorem Oc {m:List Fb}{s:Nat}{a0 b c Da:Value}{l a:List Value}(h:mc m l a):mc (He s m) (a0::b::l) (c::Da::a):=(.o (.o h))
theorem Ce {t:Nat→Value}{m:List Fb}{a0 a:Value}{l b:List Value}(h:ld t m l b):ld t (we m) (a0::a::l) (a0::a::b):=(mk (mk h))
theorem Te {t:Nat→Value}{m:List Fb}{s:Nat}{a0 b:Value}{l a:List Value}(h:ld t m l a):ld t (He s m) (a0::b::l) (t s::t (s+1)::a):=(Jb (Jb h))
abbrev bf (m:List Fb):List Fb:=.k::.k::.k::m
abbrev gh (s:Nat) (m:List Fb):List Fb:=.o s::.o (s+1)::.o (s+2)::m
theorem Lc {m:List Fb}{a0 a a2:Value}{l b:List Value}(h:mc m l b):mc (bf m) (a0::a::a2::l) (a0::a::a2::b):=(.k (.k (.k h)))
theorem Xd {m:List Fb}{s:Nat}{a0 b a2 c Da d:Value}{l a:List Value}(h:mc m l a):mc (gh s m) (a0::b::a2::l) (c::Da::d::a):=(.o (.o (.o h)))
theorem kf {t:Nat→Value}{m:List Fb}{a0 a a2:Value}{l b:List Value}(h:ld t m l b):ld t (bf m) (a0::a::a2::l) (a0::a::a2::b):=(mk (mk (mk h)))
theorem Dh {t:Nat→Value}{m:List Fb}{s:Nat}{a0 b a2:Value}{l a:List Value}(h:ld t m l a):ld t (gh s m) (a0::b::a2::l) (t s::t (s+1)::t (s+2)::a):=(Jb (Jb (Jb h)))
abbrev Ue (m:List Fb):List Fb:=.k::.k::.k::.k::m
abbrev ai (s:Nat) (m:List Fb):List Fb:=.o s::.o (s+1)::.o (s+2)::.o (s+3)::m
theorem Mc {m:List Fb}{a0 a a2 a3:Value}{l b:List Value}(h:mc m l b):mc (Ue m) (a0::a::a2::a3::l) (a0::a::a2::a3::b):=(.k (.k (.k (.k h))))
theorem Xe {m:List Fb}{s:Nat}{a0 b a2 a3 c Da d e:Value}{l a:List Value}(h:mc m l a):mc (ai s m) (a0::b::a2::a3::l) (c::Da::d::e::a):=(.o (.o (.o (.o h))))
theorem cf {t:Nat→Value}{m:List Fb}{a0 a a2 a3:Value}{l b:List Value}(h:ld t m l b):ld t (Ue m) (a0::a::a2::a3::l) (a0::a::a2::a3::b):=(mk (mk (mk (mk h))))
theorem Ui {t:Nat→Value}{m:List Fb}{s:Nat}{a0 b a2 a3:Value}{l a:List Value}(h:ld t m l a):ld t (ai s m) (a0::b::a2::a3::l) (t s::t (s+1)::t (s+2)::t (s+3)::a):=(Jb (Jb (Jb (Jb h))))
abbrev Ff (m:List Fb):List Fb:=.k::.k::.k::.k::.k::m
abbrev Vg (s:Nat) (m:List Fb):List Fb:=.o s::.o (s+1)::.o (s+2)::.o (s+3)::.o (s+4)::m
theorem sd {m:List Fb}{a0 a a2 a3 a4:Value}{l b:List Value}(h:mc m l b):mc (Ff m) (a0::a::a2::a3::a4::l) (a0::a::a2::a3::a4::b):=(.k (.k (.k (.k (.k h)))))
theorem Jd {m:List Fb}{s:Nat}{a0 b a2 a3 a4 c Da d e f:Value}{l a:List Value}(h:mc m l a):mc (Vg s m) (a0::b::a2::a3::a4::l) (c::Da::d::e::f::a):=(.o (.o (.o (.o (.o h)))))
theorem bg {t:Nat→Value}{m:List Fb}{a0 a a2 a3 a4:Value}{l b:List Value}(h:ld t m l b):ld t (Ff m) (a0::a::a2::a3::a4::l) (a0::a::a2::a3::a4::b):=(mk (mk (mk (mk (mk h)))))
theorem rh {t:Nat→Value}{m:List Fb}{s:Nat}{a0 b a2 a3 a4:Value}{l a:List Value}(h:ld t m l a):ld t (Vg s m) (a0::b::a2::a3::a4::l) (t s::t (s+1)::t (s+2)::t (s+3)::t (s+4)::a):=(Jb (Jb (Jb (Jb (Jb h)))))
abbrev cg (m:List Fb):List Fb:=.k::.k::.k::.k::.k::.k::m
abbrev di (s:Nat) (m:List Fb):List Fb:=.o s::.o (s+1)::.o (s+2)::.o (s+3)::.o (s+4)::.o (s+5)::m
theorem td {m:List Fb}{a0 a a2 a3 a4 a5:Value}{l b:List Value}(h:mc m l b):mc (cg m) (a0::a::a2::a3::a4::a5::l) (a0::a::a2::a3::a4::a5::b):=(.k (.k (.k (.k (.k (.k h))))))
theorem lf {m:List Fb}{s:Nat}{a0 b a2 a3 a4 a5 c Da d e f g:Value}{l a:List Value}(h:mc m l a):mc (di s m) (a0::b::a2::a3::a4::a5::l) (c::Da::d::e::f::g::a):=(.o (.o (.o (.o (.o (.o h))))))
theorem vg {t:Nat→Value}{m:List Fb}{a0 a a2 a3 a4 a5:Value}{l b:List Value}(h:ld t m l b):ld t (cg m) (a0::a::a2::a3::a4::a5::l) (a0::a::a2::a3::a4::a5::b):=(mk (mk (mk (mk (mk (mk h))))))
theorem Vi {t:Nat→Value}{m:List Fb}{s:Nat}{a0 b a2 a3 a4 a5:Value}{l a:List Value}(h:ld t m l a):ld t (di s m) (a0::b::a2::a3::a4::a5::l) (t s::t (s+1)::t (s+2)::t (s+3)::t (s+4)::t (s+5)::a):=(Jb (Jb (Jb (Jb (Jb (Jb h))))))
abbrev Ph (m:List Fb):List Fb:=.k::.k::.k::.k::.k::.k::.k::m
abbrev Ai (s:Nat) (m:List Fb):List Fb:=.o s::.o (s+1)::.o (s+2)::.o (s+3)::.o (s+4)::.o (s+5)::.o (s+6)::m
theorem De {m:List Fb}{a0 a a2 a3 a4 a5 b:Value}{l c:List Value}(h:mc m l c):mc (Ph m) (a0::a::a2::a3::a4::a5::b::l) (a0::a::a2::a3::a4::a5::b::c):=(.k (.k (.k (.k (.k (.k (.k h)))))))
theorem Le {m:List Fb}{s:Nat}{a0 b a2 a3 a4 a5 c d Da e f g i j:Value}{l a:List Value}(h:mc m l a):mc (Ai s m) (a0::b::a2::a3::a4::a5::c::l) (d::Da::e::f::g::i::j::a):=(.o (.o (.o (.o (.o (.o (.o h)))))))
theorem Bi {t:Nat→Value}{m:List Fb}{a0 a a2 a3 a4 a5 b:Value}{l c:List Value}(h:ld t m l c):ld t (Ph m) (a0::a::a2::a3::a4::a5::b::l) (a0::a::a2::a3::a4::a5::b::c):=(mk (mk (mk (mk (mk (mk (mk h)))))))
theorem rj {t:Nat→Value}{m:List Fb}{s:Nat}{a0 b a2 a3 a4 a5 c:Value}{l a:List Value}(h:ld t m l a):ld t (Ai s m) (a0::b::a2::a3::a4::a5::c::l) (t s::t (s+1)::t (s+2)::t (s+3)::t (s+4)::t (s+5)::t (s+6)::a):=(Jb (Jb (Jb (Jb (Jb (Jb (Jb h)))))))
abbrev Eh (m:List Fb):List Fb:=.k::.k::.k::.k::.k::.k::.k::.k::m
abbrev Wi (s:Nat) (m:List Fb):List Fb:=.o s::.o (s+1)::.o (s+2)::.o (s+3)::.o (s+4)::.o (s+5)::.o (s+6)::.o (s+7)::m
theorem Ye {m:List Fb}{a0 a a2 a3 a4 a5 b c:Value}{l d:List Value}(h:mc m l d):mc (Eh m) (a0::a::a2::a3::a4::a5::b::c::l) (a0::a::a2::a3::a4::a5::b::c::d):=(.k (.k (.k (.k (.k (.k (.k (.k h))))))))
theorem jg {m:List Fb}{s:Nat}{a0 b a2 a3 a4 a5 c d e Da f g i j k n:Value}{l a:List Value}(h:mc m l a):mc (Wi s m) (a0::b::a2::a3::a4::a5::c::d::l) (e::Da::f::g::i::j::k::n::a):=(.o (.o (.o (.o (.o (.o (.o (.o h))))))))
theorem ei {t:Nat→Value}{m:List Fb}{a0 a a2 a3 a4 a5 b c:Value}{l d:List Value}(h:ld t m l d):ld t (Eh m) (a0::a::a2::a3::a4::a5::b::c::l) (a0::a::a2::a3::a4::a5::b::c::d):=(mk (mk (mk (mk (mk (mk (mk (mk h))))))))
theorem Xj {t:Nat→Value}{m:List Fb}{s:Nat}{a0 b a2 a3 a4 a5 c d:Value}{l a:List Value}(h:ld t m l a):ld t (Wi s m) (a0::b::a2::a3::a4::a5::c::d::l) (t s::t (s+1)::t (s+2)::t (s+3)::t (s+4)::t (s+5)::t (s+6)::t (s+7)::a):=(Jb (Jb (Jb (Jb (Jb (Jb (Jb (Jb h))))))))
abbrev Yj (m:List Fb):List Fb:=.k::.k::.k::.k::.k::.k::.k::.k::.k::m
abbrev Ci (s:Nat) (m:List Fb):List Fb:=.o s::.o (s+1)::.o (s+2)::.o (s+3)::.o (s+4)::.o (s+5)::.o (s+6)::.o (s+7)::.o (s+8)::m
theorem Gf {m:List Fb}{a0 a a2 a3 a4 a5 b c d:Value}{l e:List Value}(h:mc m l e):mc (Yj m) (a0::a::a2::a3::a4::a5::b::c::d::l) (a0::a::a2::a3::a4::a5::b::c::d::e):=(.k (.k (.k (.k (.k (.k (.k (.k (.k h)))))))))
theorem ze {m:List Fb}{s:Nat}{a0 b a2 a3 a4 a5 c d e f Da g i j k n p q:Value}{l a:List Value}(h:mc m l a):mc (Ci s m) (a0::b::a2::a3::a4::a5::c::d::e::l) (f::Da::g::i::j::k::n::p::q::a):=(.o (.o (.o (.o (.o (.o (.o (.o (.o h)))))))))
theorem tl {t:Nat→Value}{m:List Fb}{a0 a a2 a3 a4 a5 b c d:Value}{l e:List Value}(h:ld t m l e):ld t (Yj m) (a0::a::a2::a3::a4::a5::b::c::d::l) (a0::a::a2::a3::a4::a5::b::c::d::e):=(mk (mk (mk (mk (mk (mk (mk (mk (mk h)))))))))
theorem sj {t:Nat→Value}{m:List Fb}{s:Nat}{a0 b a2 a3 a4 a5 c d e:Value}{l a:List Value}(h:ld t m l a):ld t (Ci s m) (a0::b::a2::a3::a4::a5::c::d::e::l) (t s::t (s+1)::t (s+2)::t (s+3)::t (s+4)::t (s+5)::t (s+6)::t (s+7)::t (s+8)::a):=(Jb (Jb (Jb (Jb (Jb (Jb (Jb (Jb (Jb h)))))))))
abbrev vd (m:List Fb):List Fb:=.k::.k::.k::.k::.k::.k::.k::.k::.k::.k::m
abbrev Ad (s:Nat) (m:List Fb):List Fb:=.o s::.o (s+1)::.o (s+2)::.o (s+3)::.o (s+4)::.o (s+5)::.o (s+6)::.o (s+7)::.o (s+8)::.o (s+9)::m
theorem Lb {m:List Fb}{a0 a a2 a3 a4 a5 b c d a9:Value}{l e:List Value}(h:mc m l e):mc (vd m) (a0::a::a2::a3::a4::a5::b::c::d::a9::l) (a0::a::a2::a3::a4::a5::b::c::d::a9::e):=(.k (.k (.k (.k (.k (.k (.k (.k (.k (.k h))))))))))
theorem Ob {m:List Fb}{s:Nat}{a0 b a2 a3 a4 a5 c d e a9 f Da g i j k n p q r:Value}{l a:List Value}(h:mc m l a):mc (Ad s m) (a0::b::a2::a3::a4::a5::c::d::e::a9::l) (f::Da::g::i::j::k::n::p::q::r::a):=(.o (.o (.o (.o (.o (.o (.o (.o (.o (.o h))))))))))
theorem Bd {t:Nat→Value}{m:List Fb}{a0 a a2 a3 a4 a5 b c d a9:Value}{l e:List Value}(h:ld t m l e):ld t (vd m) (a0::a::a2::a3::a4::a5::b::c::d::a9::l) (a0::a::a2::a3::a4::a5::b::c::d::a9::e):=(mk (mk (mk (mk (mk (mk (mk (mk (mk (mk h))))))))))
theorem Gd {t:Nat→Value}{m:List Fb}{s:Nat}{a0 b a2 a3 a4 a5 c d e a9:Value}{l a:List Value}(h:ld t m l a):ld t (Ad s m) (a0::b::a2::a3::a4::a5::c::d::e::a9::l) (t s::t (s+1)::t (s+2)::t (s+3)::t (s+4)::t (s+5)::t (s+6)::t (s+7)::t (s+8)::t (s+9)::a):=(Jb (Jb (Jb (Jb (Jb (Jb (Jb (Jb (Jb (Jb h))))))))))
abbrev Pc (m:List Fb):List Fb:=.k::.k::.k::.k::.k::.k::.k::.k::.k::.k::.k::.k::.k::.k::.k::.k::.k::.k::.k::.k::m
abbrev Be (s:Nat) (m:List Fb):List Fb:=.o s::.o (s+1)::.o (s+2)::.o (s+3)::.o (s+4)::.o (s+5)::.o (s+6)::.o (s+7)::.o (s+8)::.o (s+9)::.o (s+10)::.o (s+11)::.o (s+12)::.o (s+13)::.o (s+14)::.o (s+15)::.o (s+16)::.o (s+17)::.o (s+18)::.o (s+19)::m
theorem Db {m:List Fb}{a0 a a2 a3 a4 a5 b c d a9 e f a12 g i j n o p q:Value}{l r:List Value}(h:mc m l r):mc (Pc m) (a0::a::a2::a3::a4::a5::b::c::d::a9::e::f::a12::g::i::j::n::o::p::q::l) (a0::a::a2::a3::a4::a5::b::c::d::a9::e::f::a12::g::i::j::n::o::p::q::r):=(.k (.k (.k (.k (.k (.k (.k (.k (.k (.k (.k (.k (.k (.k (.k (.k (.k (.k (.k (.k h))))))))))))))))))))
theorem Qb {m:List Fb}{s:Nat}{a0 b a2 a3 a4 a5 c d e a9 f g a12 i j k n p q r t Da u v w x y z A B C D E F G H K L M N:Value}{l a:List Value}(h:mc m l a):mc (Be s m) (a0::b::a2::a3::a4::a5::c::d::e::a9::f::g::a12::i::j::k::n::p::q::r::l) (t::Da::u::v::w::x::y::z::A::B::C::D::E::F::G::H::K::L::M::N::a):=(.o (.o (.o (.o (.o (.o (.o (.o (.o (.o (.o (.o (.o (.o (.o (.o (.o (.o (.o (.o h))))))))))))))))))))
theorem Tc {t:Nat→Value}{m:List Fb}{a0 a a2 a3 a4 a5 b c d a9 e f a12 g i j k n o p:Value}{l q:List Value}(h:ld t m l q):ld t (Pc m) (a0::a::a2::a3::a4::a5::b::c::d::a9::e::f::a12::g::i::j::k::n::o::p::l) (a0::a::a2::a3::a4::a5::b::c::d::a9::e::f::a12::g::i::j::k::n::o::p::q):=(mk (mk (mk (mk (mk (mk (mk (mk (mk (mk (mk (mk (mk (mk (mk (mk (mk (mk (mk (mk h))))))))))))))))))))
theorem Je {t:Nat→Value}{m:List Fb}{s:Nat}{a0 b a2 a3 a4 a5 c d e a9 f g a12 i j k n o p q:Value}{l a:List Value}(h:ld t m l a):ld t (Be s m) (a0::b::a2::a3::a4::a5::c::d::e::a9::f::g::a12::i::j::k::n::o::p::q::l) (t s::t (s+1)::t (s+2)::t (s+3)::t (s+4)::t (s+5)::t (s+6)::t (s+7)::t (s+8)::t (s+9)::t (s+10)::t (s+11)::t (s+12)::t (s+13)::t (s+14)::t (s+15)::t (s+16)::t (s+17)::t (s+18)::t (s+19)::a):=(Jb (Jb (Jb (Jb (Jb (Jb (Jb (Jb (Jb (Jb (Jb (Jb (Jb (Jb (Jb (Jb (Jb (Jb (Jb (Jb h))))))))))))))))))))
abbrev Ke (m:List Fb):List Fb:=.k::.k::.k::.k::.k::.k::.k::.k::.k::.k::.k::.k::.k::.k::.k::.k::.k::.k::.k::.k::.k::.k::.k::.k::.k::.k::.k::.k::.k::.k::.k::.k::.k::.k::.k::.k::.k::.k::.k::.k::.k::.k::.k::.k::.k::.k::.k::.k::.k::.k::m
abbrev Qj (s:Nat) (m:List Fb):List Fb:=.o s::.o (s+1)::.o (s+2)::.o (s+3)::.o (s+4)::.o (s+5)::.o (s+6)::.o (s+7)::.o (s+8)::.o (s+9)::.o (s+10)::.o (s+11)::.o (s+12)::.o (s+13)::.o (s+14)::.o (s+15)::.o (s+16)::.o (s+17)::.o (s+18)::.o (s+19)::.o (s+20)::.o (s+21)::.o (s+22)::.o (s+23)::.o (s+24)::.o (s+25)::.o (s+26)::.o (s+27)::.o (s+28)::.o (s+29)::.o (s+30)::.o (s+31)::.o (s+32)::.o (s+33)::.o (s+34)::.o (s+35)::.o (s+36)::.o (s+37)::.o (s+38)::.o (s+39)::.o (s+40)::.o (s+41)::.o (s+42)::.o (s+43)::.o (s+44)::.o (s+45)::.o (s+46)::.o (s+47)::.o (s+48)::.o (s+49)::m
theorem Ec {m:List Fb}{a0 a a2 a3 a4 a5 b c d a9 e f a12 g i j n o p q a20 a21 r s a24 t u v a28 w x a31 y z A B C a37 D E a40 F G H K L a46 M N a49:Value}{l P:List Value}(h:mc m l P):mc (Ke m) (a0::a::a2::a3::a4::a5::b::c::d::a9::e::f::a12::g::i::j::n::o::p::q::a20::a21::r::s::a24::t::u::v::a28::w::x::a31::y::z::A::B::C::a37::D::E::a40::F::G::H::K::L::a46::M::N::a49::l) (a0::a::a2::a3::a4::a5::b::c::d::a9::e::f::a12::g::i::j::n::o::p::q::a20::a21::r::s::a24::t::u::v::a28::w::x::a31::y::z::A::B::C::a37::D::E::a40::F::G::H::K::L::a46::M::N::a49::P):=(.k (.k (.k (.k (.k (.k (.k (.k (.k (.k (.k (.k (.k (.k (.k (.k (.k (.k (.k (.k (.k (.k (.k (.k (.k (.k (.k (.k (.k (.k (.k (.k (.k (.k (.k (.k (.k (.k (.k (.k (.k (.k (.k (.k (.k (.k (.k (.k (.k (.k h))))))))))))))))))))))))))))))))))))))))))))))))))
theorem ye {m:List Fb}{s:Nat}{a0 b a2 a3 a4 a5 c d e a9 f g a12 i j k n p q r a20 a21 t u a24 v w x a28 y z a31 A B C D E a37 F G a40 H K L M N a46 P Q a49 R Da S T V W X Y gc lc rc fd id md rd wd Fd Id be ce ge he le ne Ne of wf If dg rg bi ci ii li pi Pi kk mk ok dl el nl ol pl ul wl am em hm lm:Value}{l a:List Value}(h:mc m l a):mc (Qj s m) (a0::b::a2::a3::a4::a5::c::d::e::a9::f::g::a12::i::j::k::n::p::q::r::a20::a21::t::u::a24::v::w::x::a28::y::z::a31::A::B::C::D::E::a37::F::G::a40::H::K::L::M::N::a46::P::Q::a49::l) (R::Da::S::T::V::W::X::Y::gc::lc::rc::fd::id::md::rd::wd::Fd::Id::be::ce::ge::he::le::ne::Ne::of::wf::If::dg::rg::bi::ci::ii::li::pi::Pi::kk::mk::ok::dl::el::nl::ol::pl::ul::wl::am::em::hm::lm::a):=(.o (.o (.o (.o (.o (.o (.o (.o (.o (.o (.o (.o (.o (.o (.o (.o (.o (.o (.o (.o (.o (.o (.o (.o (.o (.o (.o (.o (.o (.o (.o (.o (.o (.o (.o (.o (.o (.o (.o (.o (.o (.o (.o (.o (.o (.o (.o (.o (.o (.o h))))))))))))))))))))))))))))))))))))))))))))))))))
theorem We {t:Nat→Value}{m:List Fb}{a0 a a2 a3 a4 a5 b c d a9 e f a12 g i j k n o p a20 a21 q r a24 s u v a28 w x a31 y z A B C a37 D E a40 F G H K L a46 M N a49:Value}{l P:List Value}(h:ld t m l P):ld t (Ke m) (a0::a::a2::a3::a4::a5::b::c::d::a9::e::f::a12::g::i::j::k::n::o::p::a20::a21::q::r::a24::s::u::v::a28::w::x::a31::y::z::A::B::C::a37::D::E::a40::F::G::H::K::L::a46::M::N::a49::l) (a0::a::a2::a3::a4::a5::b::c::d::a9::e::f::a12::g::i::j::k::n::o::p::a20::a21::q::r::a24::s::u::v::a28::w::x::a31::y::z::A::B::C::a37::D::E::a40::F::G::H::K::L::a46::M::N::a49::P):=(mk (mk (mk (mk (mk (mk (mk (mk (mk (mk (mk (mk (mk (mk (mk (mk (mk (mk (mk (mk (mk (mk (mk (mk (mk (mk (mk (mk (mk (mk (mk (mk (mk (mk (mk (mk (mk (mk (mk (mk (mk (mk (mk (mk (mk (mk (mk (mk (mk (mk h))))))))))))))))))))))))))))))))))))))))))))))))))
theorem sl {t:Nat→Value}{m:List Fb}{s:Nat}{a0 b a2 a3 a4 a5 c d e a9 f g a12 i j k n o p q a20 a21 r u a24 v w x a28 y z a31 A B C D E a37 F G a40 H K L M N a46 P Q a49:Value}{l a:List Value}(h:ld t m l a):ld t (Qj s m) (a0::b::a2::a3::a4::a5::c::d::e::a9::f::g::a12::i::j::k::n::o::p::q::a20::a21::r::u::a24::v::w::x::a28::y::z::a31::A::B::C::D::E::a37::F::G::a40::H::K::L::M::N::a46::P::Q::a49::l) (t s::t (s+1)::t (s+2)::t (s+3)::t (s+4)::t (s+5)::t (s+6)::t (s+7)::t (s+8)::t (s+9)::t (s+10)::t (s+11)::t (s+12)::t (s+13)::t (s+14)::t (s+15)::t (s+16)::t (s+17)::t (s+18)::t (s+19)::t (s+20)::t (s+21)::t (s+22)::t (s+23)::t (s+24)::t (s+25)::t (s+26)::t (s+27)::t (s+28)::t (s+29)::t (s+30)::t (s+31)::t (s+32)::t (s+33)::t (s+34)::t (s+35)::t (s+36)::t (s+37)::t (s+38)::t (s+39)::t (s+40)::t (s+41)::t (s+42)::t (s+43)::t (s+44)::t (s+45)::t (s+46)::t (s+47)::t (s+48)::t (s+49)::a):=(Jb (Jb (Jb (Jb (Jb (Jb (Jb (Jb (Jb (Jb (Jb (Jb (Jb (Jb (Jb (Jb (Jb (Jb (Jb (Jb (Jb (Jb (Jb (Jb (Jb (Jb (Jb (Jb (Jb (Jb (Jb (Jb (Jb (Jb (Jb (Jb (Jb (Jb (Jb (Jb (Jb (Jb (Jb (Jb (Jb (Jb (Jb (Jb (Jb (Jb h))))))))))))))))))))))))))))))))))))))))))))))))))
theorem fb {m:List Fb}{v a:Value}{l b:List Value}(h:mc m l b):mc (.i v::m) (a::l) (v::b):=.i h
theorem Sa {l:List Value}:mc [] l l:=.z
end Go.cc
namespace Go.cc
open Go.RowKit
section
variable {P:Program}{Q:Exit→Act→World→Prop}{ops:Array Oper}{fr O:List Value}{ds:List Deferred}{w:World}
theorem ns (ops:Array Oper) (fr:List Value) (ds:List Deferred) (j:Nat):yielded ops (F fr ds).tmps j=match (ops[j]?).bind (·.dst) with | some s=>(match (F fr ds).eval (.tmp s) with | .bool b=>some b | _=>none) | none=>none:=by
 unfold yielded;cases h:(ops[j]?).bind (·.dst) with
 | none=>simp
 | some s =>
  simp only [Option.bind_some,F,Act.eval];cases a:(⟨fr⟩:Array Value)[s]? with
  | none =>
   have:(⟨fr⟩:Array Value).getD s undef=undef:=by simp [Array.getD_eq_getD_getElem?,a]
   first
    | (simp [a,undef]; done)
    | (rw [this]; simp [undef])
  | some v =>
   have:(⟨fr⟩:Array Value).getD s undef=v:=by simp [Array.getD_eq_getD_getElem?,a]
   first
    | (simp [a]; done)
    | (rw [this]; cases v <;> rfl)
theorem wanted_put {o p:Oper}{fr:List Value}{ds ds':List Deferred}{g:List Value→List Value}(g3:∀ (y:Operand),(∀ e,p.dst=some e→On y≠some e)→(F (g fr) ds).eval y=(F fr ds).eval y) (c:∀ e,p.dst=some e→(reads ops o).contains e=false) :
  Region.wanted o (yielded ops (F (g fr) ds').tmps)=Region.wanted o (yielded ops (F fr ds').tmps):=by
 have Ga:(F (g fr) ds').tmps=(F (g fr) ds).tmps:=rfl;have la:(F fr ds').tmps=(F fr ds).tmps:=rfl;rw [Ga,la];unfold Region.wanted;cases d:o.guard with
 | none=>rfl
 | some f =>
  obtain ⟨j,b⟩:=f;simp only;have:yielded ops (F (g fr) ds).tmps j=yielded ops (F fr ds).tmps j:=by
   rw [ns,ns];cases h:(ops[j]?).bind (·.dst) with
   | none=>rfl
   | some s =>
    simp only;rw [g3 (.tmp s) fun e he a=>by
     simp [On] at a;subst a;have:=c s he;unfold reads at this;rw [d] at this;simp [h] at this]
  first
   | rw [this]
   | simp [this]
theorem ev {o:Oper}{j d:Nat}{b a:Bool}(c:o.guard=some (j,b)) (e:(ops[j]?).bind (·.dst)=some d) (f:Vb fr d (.bool a)):Region.wanted o (yielded ops (F fr ds).tmps)=(a == b):=by
 unfold Region.wanted;rw [c];simp only;have:yielded ops (F fr ds).tmps j=some a:=by
  rw [ns,e];simp only;rw [aa f ds]
 rw [this];cases b<;>cases a<;>rfl
theorem ie {o:Oper}(a:o.guard=none):Region.wanted o (yielded ops (F fr ds).tmps)=true:=by simp [Region.wanted,a]
theorem cq {o:Oper}{j d:Nat}{b:Bool}(a:o.guard=some (j,b)) (c:(ops[j]?).bind (·.dst)=some d) (e:Vb fr d (.bool b)):Region.wanted o (yielded ops (F fr ds).tmps)=true :=
 (ev a c e).trans (by cases b<;>rfl)
end
end Go.cc
namespace Go.cc
open Go.RowKit
section
variable {P:Program}{Q:Exit→Act→World→Prop}{ops:Array Oper}{fr O:List Value}{ds:List Deferred}{w:World}
def waits (ops:Array Oper) (R S:List Nat) (i:Nat):Bool:=S.all fun j=>j == i || S.any fun k=>(Pj ops j).contains k && R.contains k
theorem ij.later {R d:List Nat}(h:ij ops R d) (m:R.Nodup){i:Nat}{S:List Nat}(n:∀ j ∈ S,j=i∨∃ k ∈ S,k ∈ Pj ops j∧k ∈ R):∀ a c,d=a++i::c→i ∉ a→∀ j ∈ a,j ∉ S:=by
 induction h with
 | z=>intro a c h; simp at h
 | @s R d k p t r =>
  intro a c h o j b;cases a with
  | nil=>cases b
  | cons e a =>
   simp only [List.cons_append,List.cons.injEq] at h;obtain ⟨rfl,h⟩:=h;have he:k ∉ S:=fun hm=>by
    rcases n k hm with rfl | ⟨q,f,g,l⟩
    ·exact o (by simp)
    ·exact xu p g l
   rcases List.mem_cons.1 b with rfl | b
   ·exact he
   ·refine r (m.erase k) (fun j b=>?_) a c h (fun hm=>o (by simp [hm])) j b;rcases n j b with rfl | ⟨q,f,g,l⟩
    ·exact .inl rfl
    ·exact .inr ⟨q,f,g,(m.mem_erase_iff).2 ⟨fun e=>he (e ▸ f),l⟩⟩
end
end Go.cc
namespace Go.cc
open Go.RowKit
section
variable {P:Program}{Q:Exit→Act→World→Prop}{K:List Value→List Deferred→World→Prop}{fr O:List Value}{ds:List Deferred}{w:World}
variable {dst:Option Tmp}{ty:TypeId}{pos:String}{after:Array Edge}{g:Option (Nat×Bool)}
variable {S Z:Nat→Prop}{I:World}{rs U:List yb}{A:World→Prop}
variable {T:TypeId}{d:TypeDesc}{qe:Bool}{Uc:List Value}{n m:Nat}
inductive lp (fr:List Value) (n:Nat):Nat→List (Nat×Operand)→List Value→Prop where
 | z {i:Nat}:lp fr n i [] []
 | s {i:Nat} {x:Operand} {v:Value} {cs rest:List Value} {xs:List (Nat×Operand)} (a:ub fr x v) (b:v.cells=⟨cs⟩) (c:cs.length=n) (t:lp fr n (i+1) xs rest):lp fr n i ((i,x)::xs) (cs++rest)
theorem lp.fill {i:Nat}{xs:List (Nat×Operand)}{cells:List Value}(h:lp fr n i xs cells):∀ a:List Value,a.length=i*n+cells.length →
  Instr.fill (fun i=>some (i*n,n)) ⟨a⟩ (xs.map fun p=>(p.1,(F fr ds).eval p.2))=some ⟨a.take (i*n)++cells⟩:=by
 induction h with
 | z=>intro a b; simp at b; simp [Instr.fill,← b]
 | @s i x v cs rest xs e f c t g =>
  intro a b;simp only [List.length_append] at b;have e2:(i+1)*n=i*n+n:=by rw [Nat.add_mul,Nat.one_mul]
  simp only [List.map_cons,Instr.fill,e ds,f];have Ga:¬ (((⟨cs⟩:Array Value).size≠n || i*n+(⟨cs⟩:Array Value).size > (⟨a⟩:Array Value).size)=true):=by simp [c,b]
  rw [if_neg Ga];have j:=Tq cs (i*n) 0 a (by omega);have la:(⟨cs⟩:Array Value).zipIdx.toList=cs.zipIdx 0:=by simp
  have d:(⟨cs⟩:Array Value).zipIdx.foldl (fun (cs:Array Value) (p:Value×Nat)=>cs.setIfInBounds (i*n+p.2) p.1) ⟨a⟩=⟨a.take (i*n+0)++cs++a.drop (i*n+0+cs.length)⟩:=by
   rw [← Array.foldl_toList,la];exact j
  first
   | rw [d]
   | (erw [d])
  rw [g _ (by simp [e2,c,b];omega)];congr 2;rw [e2,c,Nat.add_zero];have:(a.take (i*n)++cs).length=i*n+n:=by simp [c];omega
  rw [← this,List.take_left,List.append_assoc]
theorem jt {e:TypeId}{len:Nat}{xs:List (Nat×Operand)}{cells:List Value}(f:P.underlying T=some (.slice e)) (c:Wc P e qe Uc n m) (a:(decide (0<n) && decide (n≤1000) && decide (0<len) && decide (len≤1000))=true) (j:lp fr n 0 xs cells) (k:cells.length=len*n) (l:Sep S Z I w rs A)
  (h:∀ b w',w.heap.size≤b→Sep S Z I w' (.na b e cells::rs) A→Kg fr dst (.slice (some ⟨b,0,none⟩) len len) fun O=>K O ds w'):Dc P (Oper.mk dst (.buildSlice T len ⟨xs⟩) ty pos after g) fr ds w K Q:=by
 obtain ⟨O,gb⟩:=xh fr dst (.slice (some ⟨w.heap.size,0,none⟩) len len);refine ug (v:=.slice (some ⟨w.heap.size,0,none⟩) len len) (w':=w.alloc (.cells ⟨cells⟩ e)) ?_ gb (h _ _ (Nat.le_refl _) (l.alloc rfl (heap_alloc_new w _)) O gb);obtain ⟨z,o,y⟩:=c.zero (w:=w);have q:=c.sizeOf (w:=w);simp only [Bool.and_eq_true,decide_eq_true_eq] at a;have hmul:len*n≤1000*1000:=Nat.mul_le_mul a.2 a.1.1.2;have r:¬ (len*n > 2 ^ 24):=by omega
 have s:¬ (len*n=0):=by
  have:=Nat.mul_pos a.1.2 a.1.1.1;omega
 have t:((⟨xs⟩:Array (Nat×Operand)).map fun (i,x)=>(i,(F fr ds).eval x)).toList=xs.map fun p=>(p.1,(F fr ds).eval p.2):=by simp
 have d:=j.fill (ds:=ds) ((Array.range (len*n)).map (z.cells[· % z.cells.size]!)).toList (by simp [k]);simp only [execOp,Instr.buildSlice,Sem.run_bind,run_underlying f,Result.andThen_ok,q,if_neg r,if_neg s,o,Sem.run_pure,t];have u:(⟨((Array.range (len*n)).map (z.cells[· % z.cells.size]!)).toList⟩:Array Value)=(Array.range (len*n)).map (z.cells[· % z.cells.size]!):=rfl;rw [u] at d;simp only [d];simp [newRow]
structure Pq (P:Program) (c:Code) (Q:Exit→Act→World→Prop) (n:Nat) (fr:List Value) (ds:List Deferred) (w:World):Prop where
 out:Code.rounds P c Q n (F fr ds) w
theorem rz {c:Code}(n:Nat) (h:Pq P c Q n fr ds w):Yd P (.loop c) Q fr ds w:=⟨wp_loop_rounds n h.out⟩
theorem Gq {c:Code}{n:Nat}(h:Yd P c (Exit.then (fun a w=>∃ fr ds,a=F fr ds∧Pq P c Q n fr ds w) Q) fr ds w):Pq P c Q (n+1) fr ds w:=⟨by
 rw [rounds_succ];refine wp_mono h.out fun e a w b=>?_;cases e with
 | normal=>obtain ⟨fr,ds,rfl,h⟩:=b; exact h.out
 | exit id=>exact b
 | goto l=>exact b
 | ret=>exact b
 | panic d=>exact b
 | outgrown=>exact b⟩
theorem Ur {c:Code}{n:Nat}(h:Pq P c Q n fr ds w):Exit.then (fun a w=>∃ fr ds,a=F fr ds∧Pq P c Q n fr ds w) Q .normal (F fr ds) w:=⟨_,_,rfl,h⟩
end
end Go.cc
namespace Go.Kc
open Go.cc Go.RowKit
section
variable {P:Program}{Q:Exit→Act→World→Prop}{K:List Value→List Deferred→World→Prop}{fr O:List Value}{ds:List Deferred}{w:World}
variable {dst:Option Tmp}{ty:TypeId}{pos:String}{after:Array Edge}{g:Option (Nat×Bool)}
variable {I:World}{rs U:List yb}{μ J:M}
variable {T:TypeId}{d:TypeDesc}{qe:Bool}{Uc:List Value}{n m:Nat}
def okV (R:Value→World→Prop):Ending→World→Prop
 | .returned v,w=>R v w
 | _,_=>False
def xp (P:Program) (fn:Func) (R:Value→World→Prop):Exit→Act→World→Prop
 | .panic _,_,_=>False
 | e,a,w=>bodyPostD P fn (okV R) e a w
structure kq (P:Program) (f:FuncId) (args:List Value) (w:World) (R:Value→World→Prop):Prop where
 out:∀ u,CallsD P f ⟨args⟩ u w fun e a w'=>a=u∧okV R e w'
theorem yv {f:FuncId}{fn:Func}{c:Code}{args frm:List Value}{R:Value→World→Prop}(d:P.funcs[f]?=some fn) (g:fn.body=some c)
  (j:args++List.replicate (fn.ntmps - args.length) undef=frm) (h:Yd P c (bn P fn R) frm [] w):kq P f args w R:=by
 refine ⟨fun u=>callsD_of_wp d g ?_⟩;subst j;have la:(⟨args⟩:Array Value)++Array.replicate (fn.ntmps - args.length) undef=⟨args++List.replicate (fn.ntmps - args.length) undef⟩:=by
  apply Array.ext';simp
 have h:=wp_mono h.out (Q':=bodyPost P fn (okV R)) fun e a w b=>by
  cases e with
  | normal=>exact b
  | ret=>exact b
  | panic k=>exact b
  | exit i=>exact b
  | goto l=>exact b
  | outgrown=>exact b
 simpa [F,la] using h
theorem Kn {f:Operand}{xs:List Operand}{tys:Array TypeId}{k:FuncId}{cap vs:List Value}(a:ub fr f (.func (.func k) #[] ⟨cap⟩)) (b:Wj fr xs vs)
  (c:Rc fr dst undef O) (h:K O (⟨.fn (.func k) ⟨cap⟩,⟨vs⟩⟩::ds) w):Dc P (Oper.mk dst (.defer { callee:=.value f,args:=⟨xs⟩,argTypes:=tys }) ty pos after g) fr ds w K Q:=by
 constructor;intro l d;have e:=a ds;have i:=b ds;have j:(execOp (F fr ds).eval (Oper.mk dst (.defer { callee:=.value f,args:=⟨xs⟩,argTypes:=tys }) ty pos after g)).run P w=.ok (.defer ⟨.fn (.func k) ⟨cap⟩,⟨vs⟩⟩) w:=by
  simp [execOp,resolve,e,Deferred.ofValue,i]
 unfold Oper.wp;rw [j];have:=d _ _ _ h;rw [← c _] at this;simpa [Oper.upon,F,Act.put] using this
theorem nj {fn:Func}{R:Value→World→Prop}{a:List ResultVar}{vs:List Value}(b:fn.results=⟨a⟩) (c:zb P fr w a vs) (h:R (Bp vs) w):xp P fn R .ret (F fr []) w :=
 ⟨_,wu b c,h⟩
variable {κ β:Type}[DecidableEq κ] [Fb κ] [gi β]
end
end Go.Kc
namespace Go.Kc
open Go.cc Go.RowKit
theorem Hc {P : Program} {f : FuncId} {fn : Func} (a : P.funcs[f]? = some fn) (b : fn.body.isSome = true := by rfl) (c : (fn.name == "runtime.NumGoroutine") = false := by kernel_rfl) : tc P f := iz a b c
theorem Tf {P : Program}{T : TypeId}{d : TypeDesc}{qe : Bool}{z : Value}{Uc : List Value}{n m : Nat}(hu : P.underlying T = some d) (a : Tr d = qe := by rfl) (h : (P.info? T).map (fun i => (i.zero, i.size, i.bytes)) = some (some z, n, m):= by kernel_rfl) (b : z.cells = ⟨Uc⟩ := by rfl) : Wc P T qe Uc n m := DB hu a h b
end Go.Kc
namespace Go.Kc
open Go.cc Go.RowKit
theorem Vr {v:Value}{l:List Value}(h:tg v=true) (k:l.all tg=true):(v::l).all tg=true:=by simp [h,k]
theorem nC:([]:List Value).all tg=true:=rfl
section
variable {P:Program}{Q:Exit→Act→World→Prop}{K:List Value→List Deferred→World→Prop}{fr O:List Value}{ds:List Deferred}{w:World}
variable {dst:Option Tmp}{ty:TypeId}{pos:String}{after:Array Edge}{g:Option (Nat×Bool)}
variable {I:World}{rs U:List yb}{μ J:M}
variable {T:TypeId}{d:TypeDesc}{qe:Bool}{Uc:List Value}{n m:Nat}
class PC (α β:Type) [nc α] [nc β] where
 code:α→List β
 set:α→List β→α
 gb:M→List Value→α→Prop
 up:∀ {μ J:M}{l:List Value}{x:α},ra μ J→gb μ l x→gb J l x
 Di:∀ {μ:M}{l:List Value}{x:α},gb μ l x→l.length+1=nc.Mb α
 wr:∀ {μ:M}{l:List Value}{x:α}{ys:List β}{a:Option Addr}{c:Nat},gb μ l x→Va μ a c ys→nc.cs μ (l++[.slice a ys.length c]) (set x ys)
 st:∀ {μ:M}{l:List Value}{x:α}{ys:List β},gb μ l x→gb μ l (set x ys)
 cD:∀ {x:α},set x (code x)=x
 cs:∀ {x:α}{ys:List β},code (set x ys)=ys
variable {α β:Type}[nc α] [nc β] [PC α β]
end
end Go.Kc
namespace Go.cc
open Go.RowKit
section
variable {P:Program}{Q:Exit→Act→World→Prop}{ops:Array Oper}{fr O:List Value}{ds:List Deferred}{w:World}
end
end Go.cc
namespace Go.cc
open Go.RowKit
section
variable {P:Program}{Q:Exit→Act→World→Prop}{ops:Array Oper}{fr O:List Value}{ds:List Deferred}{w:World}
abbrev Mon:=List Nat×(World→Prop)
def Pf (i:Nat) (a:List Mon):List Mon:=a.filter fun m=>!m.1.contains i
def Fc:List Mon→World→Prop
 | [],_=>True
 | m::l,w=>m.2 w∧Fc l w
theorem Fc.mem {a:List Mon}{w:World}:Fc a w ↔ ∀ m ∈ a,m.2 w:=by
 induction a with
 | nil=>simp [Fc]
 | cons m l b=>simp [Fc,b]
theorem Fc.sub {a Ns':List Mon}(h:Fc a w) (b:∀ m ∈ Ns',m ∈ a):Fc Ns' w:=Fc.mem.2 fun m hm=>Fc.mem.1 h m (b m hm)
theorem sr {i:Nat}{a:List Mon}:∀ m ∈ Pf i a,m ∈ a:=fun m hm=>(List.mem_filter.1 hm).1
theorem nr {i:Nat}{a Ns':List Mon}(h:∀ m ∈ Ns',m ∈ a):∀ m ∈ Pf i Ns',m ∈ Pf i a:=fun m hm=>List.mem_filter.2 ⟨h m (List.mem_filter.1 hm).1,(List.mem_filter.1 hm).2⟩
def Qe (P:Program) (ops:Array Oper) (Q:Exit→Act→World→Prop):List Mon→List Nat→Act→World→Prop
 | _,[],a,w=>Q .normal a w
 | b,i::rest,a,w =>
  match ops[i]? with
  | none=>Qe P ops Q (Pf i b) rest a w
  | some o =>
   if Region.wanted o (yielded ops a.tmps) then o.wp P a w (fun a w=>Fc (Pf i b) w∧Qe P ops Q (Pf i b) rest a w) Q∨(o.asks P a w∧LetsOut Q)
   else Qe P ops Q (Pf i b) rest (a.put o.dst undef) w
theorem kt {o:Oper}{a:Act}{K c:Act→World→Prop}(h:o.wp P a w K Q) (b:∀ a w,K a w→c a w):o.wp P a w c Q:=by
 unfold Oper.wp at h ⊢;cases d:(execOp a.eval o).run P w with
 | halt e w'=>rw [d] at h; cases e <;> exact h
 | ok r w' =>
  rw [d] at h;cases r with
  | value x=>exact b _ _ h
  | skip=>exact b _ _ h
  | defer i=>exact b _ _ h
  | enter f args =>
   rw [Oper.upon_enter] at h ⊢;refine Calls.mono h fun e g he=>?_;cases e with
   | returned x=>exact b _ _ he
   | panicked j=>exact he
   | outgrown=>exact he
  | row r args =>
   rw [Oper.upon_row] at h ⊢;exact Rows.mono h fun x g he=>b _ _ he
  | _=>exact h
theorem Qe.mono:∀ (b:List Nat){d Ns':List Mon}{a:Act}{w:World},Qe P ops Q d b a w→(∀ m ∈ Ns',m ∈ d)→Qe P ops Q Ns' b a w
 | [],_,_,_,_,h,_=>h
 | i::b,d,Ns',a,w,h,c=>by
  simp only [Qe] at h ⊢;cases e:ops[i]? with
  | none=>rw [e] at h; exact Qe.mono b h (nr c)
  | some o =>
   rw [e] at h;simp only at h ⊢;split
   ·rename_i hw;rw [if_pos hw] at h;rcases h with h | h
    ·exact .inl (kt h fun a w ⟨f,g⟩=>⟨f.sub (nr c),Qe.mono b g (nr c)⟩)
    ·exact .inr h
   ·rename_i hw;rw [if_neg hw] at h;exact Qe.mono b h (nr c)
theorem Qe.plain:∀ (b:List Nat){c:List Mon}{a:Act}{w:World},Qe P ops Q c b a w→wpOps P ops Q b a w
 | [],_,_,_,h=>h
 | i::b,c,a,w,h=>by
  simp only [Qe] at h;simp only [wpOps];cases d:ops[i]? with
  | none=>rw [d] at h; exact Qe.plain b h
  | some o =>
   rw [d] at h;simp only at h ⊢;split
   ·rename_i hw;rw [if_pos hw] at h;rcases h with h | h
    ·exact .inl (kt h fun a w ⟨_,e⟩=>Qe.plain b e)
    ·exact .inr h
   ·rename_i hw;rw [if_neg hw] at h;exact Qe.plain b h
theorem Tt {N:World→Prop}{S:List Nat}{i d:Nat}(s:Zm Q d){o:Oper}{v:Value}(A:ops[i]?=some o) (gb:o.dst=some d){wt:Bool}(B:wt=false→v=undef) :
  ∀ (b c:List Nat) (fr:List Value) (ds:List Deferred) (w:World) (a:List Mon),
   (∀ j ∈ b,j ∉ S∧match ops[j]? with
    | some p=>Vn p.op=true∧(reads ops p).contains d=false∧p.dst≠some d∧(∀ e,p.dst=some e→(reads ops o).contains e=false)
    | none=>True) →
   N w→Fc a w→Vn o.op=true→Region.wanted o (yielded ops (F fr ds).tmps)=wt →
   (wt=true→∀ ds w,N w→(execOp (F fr ds).eval o).run P w=.ok (.value v) w) →
   Qe P ops Q ((S,N)::a) (b++c) (F (fr.set d v) ds) w→Qe P ops Q a (b++i::c) (F fr ds) w
 | [],c,fr,ds,w,a,_,hw,t,u,l,z,h=>by
  simp only [List.nil_append] at h ⊢;have h:=Qe.mono c h (Ns':=Pf i a) fun m hm=>List.mem_cons_of_mem _ (sr m hm);simp only [Qe,A];cases wt with
  | true =>
   rw [if_pos l];left;unfold Oper.wp;rw [z rfl ds w hw,Oper.upon_value,gb];rw [show (F fr ds).put (some d) v=F (fr.set d v) ds from ba rfl ds];exact ⟨t.sub sr,h⟩
  | false =>
   rw [if_neg (by rw [l];simp),gb,← B rfl];rw [show (F fr ds).put (some d) v=F (fr.set d v) ds from ba rfl ds];exact h
 | j::b,c,fr,ds,w,a,K,hw,t,u,l,z,h=>by
  obtain ⟨X,C⟩:=K j (by simp);have L:∀ k ∈ b,_:=fun k n=>K k (by simp [n]);have Y:Pf j ((S,N)::a)=(S,N)::Pf j a:=by simp [Pf,X]
  simp only [List.cons_append,Qe,Y] at h ⊢;cases M:ops[j]? with
  | none =>
   rw [M] at h;simp only at h ⊢;exact Tt s A gb B b c fr ds w _ L hw (t.sub sr) u l z h
  | some p =>
   rw [M] at h C;simp only at h C ⊢;obtain ⟨R,D,gc,T⟩:=C;rw [ux (fr:=fr) (v:=v) (ds:=ds) (ds':=ds) D] at h;have key:∀ (x:Value) (w':World) (ds':List Deferred),N w'→Fc (Pf j a) w'→Qe P ops Q ((S,N)::Pf j a) (b++c) ((F (fr.set d v) ds').put p.dst x) w'→Qe P ops Q (Pf j a) (b++i::c) ((F fr ds').put p.dst x) w':=by
    intro x w' ds' lc rc n;obtain ⟨g,g1,g2,g3⟩:=put_eq fr ds' p.dst x;have fd:=wanted_put (ops:=ops) (o:=o) (p:=p) (ds':=ds') (fun y E=>g3 fr y ds' ds' E) T;rw [g1] at n ⊢;rw [g2 _ _ _ gc] at n;refine Tt s A gb B b c (g fr) ds' w' _ L lc rc u (fd.trans l) (fun id q md rd=>?_) n;rw [show execOp (F (g fr) q).eval o=execOp (F fr q).eval o from execOp_congr o u fun y E=>g3 fr y q q fun e he wd=>by
     exact cv (T e he) y E wd]
    exact z id q md rd
   by_cases V:Region.wanted p (yielded ops (F fr ds).tmps)=true
   ·rw [if_pos V] at h ⊢;rcases h with h | h
    ·left;unfold Oper.wp at h ⊢;rw [dv (ds':=ds) R D] at h;cases W:(execOp (F fr ds).eval p).run P w with
     | halt e w' =>
      rw [W] at h;cases e<;>first | exact h | exact s _ _ _ _ _ h
     | ok r w' =>
      rw [W] at h;cases r with
      | value x=>exact ⟨h.1.2,key x w' ds h.1.1 h.1.2 h.2⟩
      | skip=>exact ⟨h.1.2,key undef w' ds h.1.1 h.1.2 h.2⟩
      | defer Fd=>exact ⟨h.1.2,key undef w' (Fd::ds) h.1.1 h.1.2 h.2⟩
      | enter f args =>
       rw [Oper.upon_enter] at h ⊢;refine Calls.mono h fun e G he=>?_;cases e with
       | returned x=>exact ⟨he.1.2,key x G ds he.1.1 he.1.2 he.2⟩
       | panicked Id=>exact s _ _ _ _ _ he
       | outgrown=>exact he
      | row r args =>
       rw [Oper.upon_row] at h ⊢;exact Rows.mono h fun x G he=>⟨he.1.2,key x G ds he.1.1 he.1.2 he.2⟩
      | _=>exact h
    ·right;refine ⟨?_,h.2⟩;have H:=h.1;unfold Oper.asks at H ⊢;rw [dv (ds':=ds) R D] at H;exact H
   ·rw [if_neg V] at h ⊢;exact key undef w ds hw (t.sub sr) h
structure zf (P:Program) (ops:Array Oper) (Q:Exit→Act→World→Prop) (a:List Mon) (R:List Nat) (fr:List Value) (ds:List Deferred) (w:World):Prop where
 out:Fc a w→∀ b,ij ops R b→Qe P ops Q a b (F fr ds) w
theorem Gh {R:List Nat}(h:zf P ops Q [] R fr ds w):Xw P ops Q R fr ds w:=⟨fun a b=>Qe.plain a (h.out trivial a b)⟩
theorem Qg {a:List Mon}(h:Q .normal (F fr ds) w):zf P ops Q a [] fr ds w:=⟨fun _ c b=>by
 cases b with
 | z=>exact h
 | s h _=>exact absurd (po h) (by simp)⟩
def Pn (ops:Array Oper) (S R:List Nat) (i:Nat):Bool :=
 match ops[i]? with
 | some o=>match o.dst with
  | some d=>Vn o.op && R.all fun j=>S.contains j || (match ops[j]? with
    | some p=>Vn p.op && !(reads ops p).contains d && p.dst != some d && (match p.dst with | some e=>!(reads ops o).contains e | none=>true)
    | none=>true)
  | _=>false
 | none=>false
theorem dq {l:List Mon}{R R':List Nat}{i:Nat}(S:List Nat) (N:World→Prop){wt:Bool}{dst:Tmp}{op:Op}{ty:TypeId}{pos:String}{after:Array Edge}{m:Option (Nat×Bool)}{v:Value}(D:Zm Q dst) (n:(decide R.Nodup && enabled ops R i && waits ops R S i && Pn ops S R i && S.contains i)=true) (E:R.erase i=R') (o:ops[i]?=some ⟨some dst,op,ty,pos,after,m⟩)
  (G:Region.wanted ⟨some dst,op,ty,pos,after,m⟩ (yielded ops (F fr ds).tmps)=wt) (H:wt=false→v=undef) (q:N w)
  (K:wt=true→∀ ds w',N w'→(execOp (F fr ds).eval ⟨some dst,op,ty,pos,after,m⟩).run P w'=.ok (.value v) w') (f:jc fr dst v O) (h:zf P ops Q ((S,N)::l) R' O ds w):zf P ops Q l R fr ds w:=⟨fun r Y s=>by
 simp only [Bool.and_eq_true,decide_eq_true_eq] at n;obtain ⟨⟨⟨⟨t,u⟩,x⟩,g⟩,-⟩:=n;obtain ⟨y,z,rfl,L,A⟩:=s.split t (po u) u;have B:=ij.later (S:=S) s t (fun j d=>by
  unfold waits at x;have:=List.all_eq_true.1 x j d;simp only [Bool.or_eq_true,beq_iff_eq,List.any_eq_true,Bool.and_eq_true,List.contains_iff_mem] at this;rcases this with h | ⟨k,k1,M,T⟩
  ·exact .inl h
  ·exact .inr ⟨k,k1,M,T⟩) y z rfl (fun hm=>(A i hm).2.1 rfl)
 unfold Pn at g;simp only [o,Bool.and_eq_true,List.all_eq_true,Bool.or_eq_true,List.contains_iff_mem] at g;unfold jc at f;subst f;subst E;refine Tt D o rfl H (N:=N) (S:=S) (v:=v) y z fr ds w l (fun j d=>⟨B j d,?_⟩) q r g.1 G K (h.out ⟨q,r⟩ _ L);obtain ⟨a,b,c⟩:=A j d;have:=g.2 j a;rcases this with h | h
 ·exact absurd h (B j d)
 ·cases f:ops[j]? with
  | none=>trivial
  | some p =>
   rw [f] at h;simp only [Bool.and_eq_true,Bool.not_eq_true',bne_iff_ne,ne_eq] at h;obtain ⟨⟨⟨V,W⟩,X⟩,C⟩:=h;refine ⟨V,W,X,fun e he=>?_⟩;rw [he] at C;simpa using C⟩
theorem Lf {a:List Mon}{R R':List Nat}{i:Nat}(S:List Nat){dst:Tmp}{op:Op}{ty:TypeId}{pos:String}{after:Array Edge}{v:Value}(b:Zm Q dst) (c:(decide R.Nodup && enabled ops R i && waits ops R S i && Pn ops S R i && S.contains i)=true) (d:R.erase i=R') (e:ops[i]?=some ⟨some dst,op,ty,pos,after,none⟩)
  (f:eo P ⟨some dst,op,ty,pos,after,none⟩ fr w v) (g:jc fr dst v O) (h:zf P ops Q ((S,fun w'=>eo P ⟨some dst,op,ty,pos,after,none⟩ fr w' v)::a) R' O ds w):zf P ops Q a R fr ds w :=
 dq S _ (wt:=true) b c d e (ie rfl) (fun h=>by cases h) f (fun _ ds w' hw=>hw.out ds) g h
theorem Um {a:List Mon}{R R':List Nat}{i j d:Nat}{b:Bool}(S:List Nat){dst:Tmp}{op:Op}{ty:TypeId}{pos:String}{after:Array Edge}{v:Value}(c:Zm Q dst) (e:(decide R.Nodup && enabled ops R i && waits ops R S i && Pn ops S R i && S.contains i)=true) (f:R.erase i=R') (g:ops[i]?=some ⟨some dst,op,ty,pos,after,some (j,b)⟩) (k:(ops[j]?).bind (·.dst)=some d) (l:Vb fr d (.bool b))
  (m:eo P ⟨some dst,op,ty,pos,after,some (j,b)⟩ fr w v) (n:jc fr dst v O) (h:zf P ops Q ((S,fun w'=>eo P ⟨some dst,op,ty,pos,after,some (j,b)⟩ fr w' v)::a) R' O ds w):zf P ops Q a R fr ds w :=
 dq S _ (wt:=true) c e f g (cq rfl k l) (fun h=>by cases h) m (fun _ ds w' hw=>hw.out ds) n h
theorem Qe.add {m:Mon}(d:∀ w,m.2 w):∀ (c:List Nat){b:List Mon}{a:Act}{w:World},Qe P ops Q b c a w→Qe P ops Q (m::b) c a w
 | [],_,_,_,h=>h
 | i::c,b,a,w,h=>by
  have f:Pf i (m::b)=m::Pf i b∨Pf i (m::b)=Pf i b:=by
   unfold Pf;rw [List.filter_cons];split
   ·exact .inl rfl
   ·exact .inr rfl
  have key:∀ {a w},Qe P ops Q (Pf i b) c a w→Qe P ops Q (Pf i (m::b)) c a w:=fun h=>by
   rcases f with e | e<;>rw [e]
   ·exact Qe.add d c h
   ·exact h
  have j:∀ {w},Fc (Pf i b) w→Fc (Pf i (m::b)) w:=fun h=>by
   rcases f with e | e<;>rw [e]
   ·exact ⟨d _,h⟩
   ·exact h
  simp only [Qe] at h ⊢;cases g:ops[i]? with
  | none=>rw [g] at h; exact key h
  | some o =>
   rw [g] at h;simp only at h ⊢;split
   ·rename_i hw;rw [if_pos hw] at h;rcases h with h | h
    ·exact .inl (kt h fun a w ⟨k,l⟩=>⟨j k,key l⟩)
    ·exact .inr h
   ·rename_i hw;rw [if_neg hw] at h;exact key h
theorem nt {a:List Mon}{m:Mon}{R:List Nat}(c:∀ w,m.2 w) (h:zf P ops Q a R fr ds w):zf P ops Q (m::a) R fr ds w:=⟨fun d b e=>Qe.add c b (h.out d.2 b e)⟩
theorem wc {a:List Mon}{R R':List Nat}{i:Nat}(S:List Nat){dst:Tmp}{op:Op}{ty:TypeId}{pos:String}{after:Array Edge}{v:Value}(b:Zm Q dst) (c:(decide R.Nodup && enabled ops R i && waits ops R S i && Pn ops S R i && S.contains i)=true) (d:R.erase i=R') (e:ops[i]?=some ⟨some dst,op,ty,pos,after,none⟩)
  (f:ae P ⟨some dst,op,ty,pos,after,none⟩ fr v) (g:jc fr dst v O) (h:zf P ops Q a R' O ds w):zf P ops Q a R fr ds w :=
 dq S (fun _=>True) (wt:=true) b c d e (ie rfl) (fun h=>by cases h) trivial (fun _ ds w' _=>f.out ds w') g (nt (fun _=>trivial) h)
theorem Fe {a:List Mon}{R R':List Nat}{i j d:Nat}{b:Bool}(S:List Nat){dst:Tmp}{op:Op}{ty:TypeId}{pos:String}{after:Array Edge}{v:Value}(c:Zm Q dst) (e:(decide R.Nodup && enabled ops R i && waits ops R S i && Pn ops S R i && S.contains i)=true) (f:R.erase i=R') (g:ops[i]?=some ⟨some dst,op,ty,pos,after,some (j,b)⟩) (k:(ops[j]?).bind (·.dst)=some d) (l:Vb fr d (.bool b))
  (m:ae P ⟨some dst,op,ty,pos,after,some (j,b)⟩ fr v) (n:jc fr dst v O) (h:zf P ops Q a R' O ds w):zf P ops Q a R fr ds w :=
 dq S (fun _=>True) (wt:=true) c e f g (cq rfl k l) (fun h=>by cases h) trivial (fun _ ds w' _=>m.out ds w') n (nt (fun _=>trivial) h)
theorem Sb {a:List Mon}{R R':List Nat}{i j d:Nat}{b c:Bool}(S:List Nat){dst:Tmp}{op:Op}{ty:TypeId}{pos:String}{after:Array Edge}(e:Zm Q dst) (f:(decide R.Nodup && enabled ops R i && waits ops R S i && Pn ops S R i && S.contains i)=true) (g:R.erase i=R') (k:ops[i]?=some ⟨some dst,op,ty,pos,after,some (j,b)⟩) (l:(ops[j]?).bind (·.dst)=some d) (m:Vb fr d (.bool c)) (n:(c == b)=false)
  (o:jc fr dst undef O) (h:zf P ops Q a R' O ds w):zf P ops Q a R fr ds w :=
 dq S (fun _=>True) (wt:=false) e f g k ((ev rfl l m).trans n) (fun _=>rfl) trivial (fun h=>by cases h) o (nt (fun _=>trivial) h)
structure hs (P:Program) (ops:Array Oper) (Q:Exit→Act→World→Prop) (a:List Mon) (R:List Nat) (fr:List Value) (ds:List Deferred) (w:World):Prop where
 m:Fc a w
 s:zf P ops Q a R fr ds w
theorem Fc.s {m:Mon}{l:List Mon}(h:m.2 w) (k:Fc l w):Fc (m::l) w:=⟨h,k⟩
theorem Fc.z:Fc [] w:=trivial
theorem Sv {b:List Mon}{R:List Nat}(d:R≠[]) (h:∀ i ∈ Kt ops R,∃ o,ops[i]?=some o∧Region.wanted o (yielded ops (F fr ds).tmps)=true∧Dc P o fr ds w (hs P ops Q (Pf i b) (R.erase i)) Q):zf P ops Q b R fr ds w:=⟨fun l e f=>by
 cases f with
 | z=>exact absurd rfl d
 | @s _ e i c g =>
  obtain ⟨o,j,hw,k⟩:=h i (List.mem_filter.2 ⟨po c,c⟩);simp only [Qe,j];rw [if_pos hw];exact .inl (k.out _ fun O ds' w' a=>⟨a.m,a.s.out a.m _ g⟩)⟩
theorem ke {b Ns':List Mon}{R:List Nat}{i:Nat}{R':List Nat}{o:Oper}(c:Kt ops R=[i]) (d:R.erase i=R') (gb:Pf i b=Ns') (f:ops[i]?=some o) (hw:Region.wanted o (yielded ops (F fr ds).tmps)=true)
  (h:Dc P o fr ds w (hs P ops Q Ns' R') Q):zf P ops Q b R fr ds w :=
 Sv (by intro e;subst e;cases c) fun k a=>by
  rw [c] at a;simp at a;subst a;exact ⟨_,f,hw,by rw [d,gb];exact h⟩
theorem MC {a f g:List Mon}{R:List Nat}{i j:Nat}{h l:List Nat}{b c:Oper}(m:Kt ops R=[i,j]) (n:R.erase i=h) (o:R.erase j=l) (p:Pf i a=f) (q:Pf j a=g) (r:ops[i]?=some b) (s:ops[j]?=some c) (t:Region.wanted b (yielded ops (F fr ds).tmps)=true) (u:Region.wanted c (yielded ops (F fr ds).tmps)=true)
  (v:Dc P b fr ds w (hs P ops Q f h) Q) (x:Dc P c fr ds w (hs P ops Q g l) Q):zf P ops Q a R fr ds w :=
 Sv (by intro e;subst e;cases m) fun k d=>by
  rw [m] at d;simp at d;rcases d with rfl | rfl
  ·exact ⟨_,r,t,by rw [n,p];exact v⟩
  ·exact ⟨_,s,u,by rw [o,q];exact x⟩
theorem Qw {a:List Mon}{R:List Nat}{c e:List Value}{d:Nat}{b:Bool}(f:Vb fr d (.bool b)) (g:jc fr d (.bool true) c) (h:jc fr d (.bool false) e)
  (i:b=true→zf P ops Q a R c ds w) (j:¬ b=true→zf P ops Q a R e ds w):zf P ops Q a R fr ds w:=by
 cases b with
 | true=>have:=i rfl; rw [jc.same f g] at this; exact this
 | false=>have:=j (by simp); rw [jc.same f h] at this; exact this
theorem Kw {a:List Mon}{R:List Nat}{b c:List Value}{d:Nat}{p:Prop}[Decidable p] (e:Vb fr d (.bool (decide p))) (f:jc fr d (.bool true) b) (g:jc fr d (.bool false) c)
  (i:p→zf P ops Q a R b ds w) (j:¬ p→zf P ops Q a R c ds w):zf P ops Q a R fr ds w :=
 Qw e f g (fun h=>i (of_decide_eq_true h)) (fun h=>j fun k=>h (decide_eq_true k))
theorem Cw {a:List Mon}{R:List Nat}{c e:List Value}{d:Nat}{b:Bool}(f:Vb fr d (.bool (!b))) (g:jc fr d (.bool true) c) (i:jc fr d (.bool false) e)
  (j:¬ b=true→zf P ops Q a R c ds w) (k:b=true→zf P ops Q a R e ds w):zf P ops Q a R fr ds w :=
 Qw f g i (fun h=>j (by simpa using h)) (fun h=>k (by simpa using h))
end
end Go.cc
namespace Go.Kc
open Go.cc Go.RowKit
section
variable {P:Program}{Q:Exit→Act→World→Prop}{K:List Value→List Deferred→World→Prop}{fr O:List Value}{ds:List Deferred}{w:World}
variable {dst:Option Tmp}{ty:TypeId}{pos:String}{after:Array Edge}{g:Option (Nat×Bool)}
variable {I:World}{rs U:List yb}{μ J:M}
variable {T:TypeId}{d:TypeDesc}{qe:Bool}{Uc:List Value}{n m:Nat}
end
end Go.Kc
