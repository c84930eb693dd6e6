/- Texts of Xt. -/
import Derived.Test.YteiemedhecjgiaaCWk
import Derived.LoopN
import Derived.KernelRfl
set_option linter.unusedSimpArgs false
set_option linter.unusedVariables false
set_option linter.unusedSectionVars false
namespace Go.nd
open Go.pc Go.RowKit
abbrev M:=World→Prop
def ga (μ xa:M):Prop:=∀ w,xa w→μ w
theorem ga.r {μ:M}:ga μ μ:=fun _ h=>h
theorem ga.t {a b c:M}(h:ga a b) (k:ga b c):ga a c:=fun w x=>h w (k w x)
abbrev ra (μ:M) (J w:World) (rs:List yc):Prop:=Sep (fun _=>False) (fun _=>True) J w rs μ
def xd (μ:M) (b o:Nat) (cs:List Value):Prop:=∀ w,μ w→tj w b o cs
theorem xd.up {μ xa:M}{b o:Nat}{cs:List Value}(h:xd μ b o cs) (l:ga μ xa):xd xa b o cs:=fun w k=>h w (l w k)
class fb (α:Type) where
 sz:Nat
 pos:0<sz
 cs:M→List Value→α→Prop
 ch:∀ {μ:M}{l:List Value}{x:α},cs μ l x→l.length=sz
 up:∀ {μ xa:M}{l:List Value}{x:α},ga μ xa→cs μ l x→cs xa l x
 Ui:∀ {μ:M}{l:List Value}{x:α},cs μ l x→l.all Ce=true
structure vd {α:Type}(sz:Nat) (R:List Value→α→Prop) (μ:M) (a:Option Addr) (c:Nat) (xs:List α):Prop where
 le:xs.length≤c
 cap:c≤maxLen
 el:xs=[]∨∃ b o,a=some ⟨b,o,none⟩∧∃ g:Nat→List Value,∀ i x,xs[i]?=some x→xd μ b (o+i*sz) (g i)∧R (g i) x
abbrev Ua {α:Type}[fb α] (μ:M) (a:Option Addr) (c:Nat) (xs:List α):Prop:=vd (fb.sz α) (fb.cs μ) μ a c xs
theorem vd.imp {α:Type}{sz:Nat}{R lg:List Value→α→Prop}{μ xa:M}{a:Option Addr}{c:Nat}{xs:List α}(h:vd sz R μ a c xs) (l:ga μ xa) (f:∀ (i:Nat) (cs:List Value) (x:α),xs[i]?=some x→R cs x→lg cs x):vd sz lg xa a c xs where
 le:=h.le
 cap:=h.cap
 el:=by
  rcases h.el with h | ⟨b,o,j,g,e⟩
  ·exact .inl h
  ·exact .inr ⟨b,o,j,g,fun i x d=>⟨(e i x d).1.up l,f i _ x d (e i x d).2⟩⟩
theorem Ua.up {α:Type}[fb α]{μ xa:M}{a:Option Addr}{c:Nat}{xs:List α}(h:Ua μ a c xs) (l:ga μ xa):Ua xa a c xs:=vd.imp h l fun _ _ _ _=>fb.up l
theorem Ua.nil {α:Type}[fb α]{μ:M}{a:Option Addr}:Ua (α:=α) μ a 0 []:=⟨by simp,by simp,.inl rfl⟩
theorem Ua.len {α:Type}{sz:Nat}{R:List Value→α→Prop}{μ:M}{a:Option Addr}{c:Nat}{xs:List α}(h:vd sz R μ a c xs):xs.length≤9223372036854775807:=Nat.le_trans h.le h.cap
instance:fb Int where
 sz:=1
 pos:=by decide
 cs _ l x:=l=[.int .i64 x]
 ch h:=by rw [h];rfl
 up _ h:=h
 Ui h:=by rw [h];rfl
instance:fb Bool where
 sz:=1
 pos:=by decide
 cs _ l x:=l=[.bool x]
 ch h:=by rw [h];rfl
 up _ h:=h
 Ui h:=by rw [h];rfl
instance:fb (List UInt8) where
 sz:=1
 pos:=by decide
 cs _ l x:=l=[S x]
 ch h:=by rw [h];rfl
 up _ h:=h
 Ui h:=by rw [h];rfl
def i64 (n:Int):Option Int:=if -9223372036854775808≤n∧n≤9223372036854775807 then some n else none
def at_ {α:Type}(l:List α) (i:Int):Option α:=if 0≤i then l[i.toNat]? else none
def cut {α:Type}(l:List α) (i j:Int):Option (List α):=if 0≤i∧i≤j∧j≤l.length then some ((l.take j.toNat).drop i.toNat) else none
def cat (a b:List UInt8):Option (List UInt8):=if a.length+b.length≤9223372036854775807 then some (a++b) else none
def app {α:Type}(l:List α) (xs:List α):Option (List α):=if l.length+xs.length≤4294967296 then some (l++xs) else none
theorem ia {α β:Type}{o:Option α}{f:α→Option β}{r:β}(h:Option.bind o f=some r):∃ x,o=some x∧f x=some r:=Option.bind_eq_some_iff.1 h
theorem Lo {α:Type}{c:Prop}[Decidable c]{x y:α}{r:α}(a:c) (h:(if c then x else y)=r):x=r:=by rwa [if_pos a] at h
theorem Mo {α:Type}{c:Prop}[Decidable c]{x y:α}{r:α}(a:¬ c) (h:(if c then x else y)=r):y=r:=by rwa [if_neg a] at h
theorem QG {n x:Int}(h:i64 n=some x):x=n∧-9223372036854775808≤n∧n≤9223372036854775807:=by
 unfold i64 at h;split at h
 ·rename_i a;exact ⟨(Option.some.inj h).symm,a⟩
 ·cases h
theorem kB {n x:Int}(h:i64 n=some x):IntKind.i64.wrap n=x:=by
 obtain ⟨rfl,a,b⟩:=QG h;exact wr (by omega)
theorem Xu {α:Type}{l:List α}{i:Int}{x:α}(h:at_ l i=some x):0≤i∧i<l.length∧l[i.toNat]?=some x:=by
 unfold at_ at h;split at h
 ·rename_i a;refine ⟨a,?_,h⟩;have:=(List.getElem?_eq_some_iff.1 h).1;omega
 ·cases h
theorem Su {α:Type}{l ys:List α}{i j:Int}(h:cut l i j=some ys):(0≤i∧i≤j∧j≤l.length)∧ys=(l.take j.toNat).drop i.toNat:=by
 unfold cut at h;split at h
 ·rename_i a;exact ⟨a,(Option.some.inj h).symm⟩
 ·cases h
theorem RG {a b c:List UInt8}(h:cat a b=some c):c=a++b∧a.length+b.length≤9223372036854775807:=by
 unfold cat at h;split at h
 ·rename_i d;exact ⟨(Option.some.inj h).symm,d⟩
 ·cases h
theorem Hw {α:Type}{a b c:List α}(h:app a b=some c):c=a++b∧a.length+b.length≤4294967296:=by
 unfold app at h;split at h
 ·rename_i d;exact ⟨(Option.some.inj h).symm,d⟩
 ·cases h
structure pv (v:Value) (sz:Nat) (i:Int) (b o:Nat):Prop where
 out:∃ a n c,v=.slice (some ⟨b,a,none⟩) n c∧0≤i∧i<n∧a+i.toNat*sz=o
theorem vd.elem {α:Type}{sz:Nat}{R:List Value→α→Prop}{μ:M}{a:Option Addr}{c:Nat}{xs:List α}{i:Int}{x:α}(h:vd sz R μ a c xs) (g:at_ xs i=some x) :
  ∃ b o cs,pv (.slice a xs.length c) sz i b o∧xd μ b o cs∧R cs x:=by
 obtain ⟨j,k,d⟩:=Xu g;rcases h.el with rfl | ⟨b,o,rfl,f,e⟩
 ·simp at d
 ·exact ⟨b,_,f i.toNat,⟨o,_,_,rfl,j,k,rfl⟩,(e _ _ d).1,(e _ _ d).2⟩
def ua {α:Type}[fb α] (μ:M):List Value→List α→Prop
 | cells,[]=>cells=[]
 | cells,x::l=>∃ cs t,cells=cs++t∧fb.cs μ cs x∧ua μ t l
theorem ua.len {α:Type}[fb α]{μ:M}:∀ {l:List α}{cells:List Value},ua μ cells l→cells.length=l.length*fb.sz α
 | [],cells,h=>by rw [ua] at h; simp [h]
 | x::l,cells,h=>by
  rw [ua] at h;obtain ⟨cs,t,rfl,a,b⟩:=h;simp [ua.len b,fb.ch a,Nat.add_mul,Nat.add_comm]
theorem ua.up {α:Type}[fb α]{μ xa:M}(za:ga μ xa):∀ {l:List α}{cells:List Value},ua μ cells l→ua xa cells l
 | [],cells,h=>by rw [ua] at h ⊢; exact h
 | x::l,cells,h=>by
  rw [ua] at h ⊢;obtain ⟨cs,t,a,b,c⟩:=h;exact ⟨cs,t,a,fb.up za b,ua.up za c⟩
theorem ua.cat {α:Type}[fb α]{μ:M}{ab:List α}{a:List Value}(k:ua μ a ab):∀ {l:List α}{cells:List Value},ua μ cells l→ua μ (cells++a) (l++ab)
 | [],cells,h=>by rw [ua] at h; subst h; exact k
 | x::l,cells,h=>by
  rw [ua] at h;obtain ⟨cs,t,rfl,b,c⟩:=h;rw [List.cons_append,ua];exact ⟨cs,t++a,by simp,b,ua.cat k c⟩
theorem ua.nil {α:Type}[fb α]{μ:M}:ua μ [] ([]:List α):=rfl
theorem ua.one {α:Type}[fb α]{μ:M}{cs:List Value}{x:α}(h:fb.cs μ cs x):ua μ cs [x]:=⟨cs,[],by simp,h,rfl⟩
theorem ua.cons {α:Type}[fb α]{μ:M}{cs t:List Value}{x:α}{l:List α}(h:fb.cs μ cs x) (k:ua μ t l):ua μ (cs++t) (x::l):=⟨cs,t,rfl,h,k⟩
theorem ua.Ui {α:Type}[fb α]{μ:M}:∀ {l:List α}{cells:List Value},ua μ cells l→cells.all Ce=true
 | [],cells,h=>by rw [ua] at h; simp [h]
 | x::l,cells,h=>by
  rw [ua] at h;obtain ⟨cs,t,rfl,a,b⟩:=h;rw [List.all_append,fb.Ui a,ua.Ui b];rfl
theorem ua.get {α:Type}[fb α]{μ:M}:∀ {l:List α}{cells:List Value}{i:Nat}{x:α},ua μ cells l→l[i]?=some x→fb.cs μ ((cells.drop (i*fb.sz α)).take (fb.sz α)) x
 | [],cells,i,x,h,a=>by simp at a
 | y::l,cells,i,x,h,a=>by
  rw [ua] at h;obtain ⟨cs,t,rfl,b,c⟩:=h;cases i with
  | zero=>simp at a; subst a; simp [← fb.ch b]; exact b
  | succ i =>
   simp at a;have:=ua.get c a;have e:(i+1)*fb.sz α=cs.length+i*fb.sz α:=by rw [Nat.add_mul,fb.ch b];omega
   rw [e,← List.drop_drop];simpa using this
theorem Ua.cells {α:Type}[fb α]{μ:M}{a:Option Addr}{c:Nat}:∀ {xs:List α},Ua μ a c xs→∃ cells,ua μ cells xs∧(xs≠[]→∃ b o,a=some ⟨b,o,none⟩∧xd μ b o cells):=by
 intro xs h;rcases h.el with rfl | ⟨b,o,rfl,g,n⟩
 ·exact ⟨[],rfl,fun h=>absurd rfl h⟩
 ·have key:∀ (l:List α) (k:Nat),xs.drop k=l→∃ cells,ua μ cells l∧xd μ b (o+k*fb.sz α) cells:=by
   intro l
   induction l with
   | nil=>intro k _; exact ⟨[],rfl,fun w _ j v d=>by simp at d⟩
   | cons x l p =>
    intro k i;have q:xs[k]?=some x:=by
     have:=congrArg (fun l=>l[0]?) i;simpa using this
    obtain ⟨cells,e,f⟩:=p (k+1) (by rw [← List.tail_drop,i];rfl);obtain ⟨r,m⟩:=n k x q;refine ⟨g k++cells,ua.cons m e,fun w hw j v d=>?_⟩;rcases Nat.lt_or_ge j (g k).length with za | za
    ·rw [List.getElem?_append_left za] at d;exact r w hw j v d
    ·rw [List.getElem?_append_right za] at d;have:=f w hw _ v d;rw [fb.ch m] at this za;rw [show o+(k+1)*fb.sz α+(j - fb.sz α)=o+k*fb.sz α+j by rw [Nat.add_mul];omega] at this;exact this
  obtain ⟨cells,e,f⟩:=key xs 0 rfl;exact ⟨cells,e,fun _=>⟨b,o,rfl,by simpa using f⟩⟩
section
variable {P:Program}{Q:Exit→Act→World→Prop}{K:List Value→List Deferred→World→Prop}{fr db:List Value}{ds:List Deferred}{w:World}
variable {dst:Option Tmp}{ty:TypeId}{pos:String}{after:Array Edge}{g:Option (Nat×Bool)}
variable {J:World}{rs ld:List yc}{μ:M}
variable {T:TypeId}{d:TypeDesc}{ag:Bool}{ae:List Value}{n m:Nat}
theorem Kb {c:Code}(f:List Nat) (i:f.Nodup) (d:List Db→World→Prop) (j:∀ m w,d m w→opens m=f)
  (h:ef P c (Exit.then (fun n w'=>∃ m db,n=F db ds∧Fe m fr db∧d m w') Q) fr ds w)
  (k:∀ m t w,d m w→Q .normal (F (ei t m fr) ds) w):ef P c Q fr ds w:=⟨
 wp_mono h.out fun e a w' b=>by
  cases e with
  | normal =>
   obtain ⟨m,db,rfl,o,g⟩:=b;obtain ⟨Rd,p⟩:=o.ex (by rw [j m w' g];exact i);have:=k m Rd w' g;rw [← p] at this;exact this
  | exit id=>exact b
  | goto l=>exact b
  | ret=>exact b
  | panic q=>exact b
  | outgrown=>exact b⟩
theorem we {c:Code}(f:List Nat) (k:f.Nodup) (b:Nat→List Db→World→Prop) (h:∀ n m w,b n m w→opens m=f) (g:Nat) (m0:List Db) (l:Fe m0 fr fr) (i:b g m0 w)
  (round:∀ n m t w,b n m w→ef P c (Exit.then (fun o w'=>∃ d e db,o=F db ds∧Fe e fr db∧b d e w'∧d<n) Q) (ei t m fr) ds w):ef P (.loop c) Q fr ds w:=by
 refine JH (α:={ p:Nat×List Db // opens p.2=f }) f k (fun p=>p.1.2) (fun p=>p.2) (fun p w=>b p.1.1 p.1.2 w) (fun p _=>p.1.1) ⟨(g,m0),h g m0 w i⟩ l i fun p t w q=>?_;refine (round p.1.1 p.1.2 t w q).mono (eF fun a w' ⟨d,e,db,r,s,j,u⟩=>⟨⟨(d,e),h d e w' j⟩,db,r,s,j,u⟩)
theorem DI {c:Operand}{x y:Code}{b:Bool}(a:cc fr c (.bool b)) (d:b=true→ef P x Q fr ds w) (e:¬ b=true→ef P y Q fr ds w):ef P (.cond c x y) Q fr ds w :=
 oz a d fun h=>e (by rw [h];simp)
theorem XH {c:Operand}{x y:Code}{b:Bool}(a:cc fr c (.bool (!b))) (d:¬ b=true→ef P x Q fr ds w) (e:b=true→ef P y Q fr ds w):ef P (.cond c x y) Q fr ds w :=
 oz a (fun h=>d (by simpa using h)) fun h=>e (by simpa using h)
theorem EI {ops:Array Oper}{l:List Oper}{Dh Eh:List Value}{d:Nat}{b:Bool}(za:Pc fr d (.bool b)) (a:Xc fr d (.bool true) Dh) (c:Xc fr d (.bool false) Eh)
  (e:b=true→Rf P ops Q l Dh ds w) (f:¬ b=true→Rf P ops Q l Eh ds w):Rf P ops Q l fr ds w:=pz za a c e fun h=>f (by rw [h];simp)
theorem YH {ops:Array Oper}{l:List Oper}{Dh Eh:List Value}{d:Nat}{b:Bool}(za:Pc fr d (.bool (!b))) (a:Xc fr d (.bool true) Dh) (c:Xc fr d (.bool false) Eh)
  (e:¬ b=true→Rf P ops Q l Dh ds w) (f:b=true→Rf P ops Q l Eh ds w):Rf P ops Q l fr ds w:=pz za a c (fun h=>e (by simpa using h)) fun h=>f (by simpa using h)
inductive oj:List yc→Nat→List yc→Prop where
 | z {rs:List yc}:oj rs 0 rs
 | s {a r:yc} {rs ld:List yc} {k:Nat} (h:oj rs k (r::ld)):oj (a::rs) (k+1) (r::a::ld)
theorem oj.perm {k:Nat}{rs ld:List yc}(h:oj rs k ld):rs.Perm ld:=by
 induction h with
 | z=>exact .refl _
 | s _ a=>exact (a.cons _).trans (.swap _ _ _)
theorem _root_.Go.pc.Sep.fa {k:Nat}{S Ud:Nat→Prop}{A:World→Prop}(h:Sep S Ud J w rs A) (a:oj rs k ld):Sep S Ud J w ld A where
 keeps:=h.keeps
 all r d:=h.all r (a.perm.mem_iff.2 d)
 Xi:=(a.perm.filterMap _).nodup_iff.1 h.Xi
 new b e:=h.new b ((a.perm.filterMap _).mem_iff.2 e)
 jj:=h.jj.mono fun k _ c=>⟨c.1,fun hm=>c.2 ((a.perm.filterMap yc.block).mem_iff.2 hm)⟩
theorem _root_.Go.pc.Sep.sx {r:yc}{B:World→Prop}(h:ra μ J w (r::rs)) (a:∀ w,r.holds w→B w):ra (fun w=>μ w∧B w) J w rs :=
 Sep.freeze h (d0 (α:=yc)) ca.z (fun _ _=>.inl trivial) a
theorem _root_.Go.pc.Sep.gh {α:Type}[fb α]{v:Value}{cells:List Value}{l:List α}(h:ra μ J w (.row v T (fb.sz α) n cells::rs)) (p:ua μ cells l) (e:l.length=n) :
  ∃ xa a c,v=.slice a l.length c∧ga μ xa∧Ua xa a c l∧ra xa J w rs:=by
 have q:Row w v T (fb.sz α) n cells:=h.all _ (List.mem_cons_self ..);have f:=Sep.sx (B:=fun w=>Row w v T (fb.sz α) n cells) h fun w hw=>hw;have hle:ga μ (fun w=>μ w∧Row w v T (fb.sz α) n cells):=fun w hw=>hw.1;rcases q.2 with ⟨rfl,rfl⟩ | ⟨g,o,cap,cur,rfl,D,r,s,E,F⟩
 ·obtain rfl:=List.eq_nil_of_length_eq_zero e;exact ⟨_,none,0,rfl,hle,Ua.nil,f⟩
 ·subst e;refine ⟨_,some ⟨g,o,none⟩,cap,rfl,hle,⟨r,s,.inr ⟨g,o,rfl,fun i=>(cells.drop (i*fb.sz α)).take (fb.sz α),fun i x k=>⟨?_,?_⟩⟩⟩,f⟩
  ·intro G t j u d;obtain ⟨-,y⟩:=t;have z:0<l.length:=by have:=(List.getElem?_eq_some_iff.1 k).1;omega
   obtain ⟨b,H,c,m,A⟩:=y.Wt z;simp at m;obtain ⟨⟨rfl,rfl⟩,rfl⟩:=m;have C:j<fb.sz α:=by
    have:=(List.getElem?_eq_some_iff.1 d).1;simp at this;omega
   rw [List.getElem?_take_of_lt C,List.getElem?_drop] at d;have:=A _ u d;rw [← Nat.add_assoc] at this;exact this
  ·exact fb.up hle (p.get k)
theorem _root_.Go.pc.Sep.lC {α:Type}[fb α]{b:Nat}{cells:List Value}{l:List α}(h:ra μ J w (.ba b T cells::rs)) (c:ua μ cells l) (hlen:l.length≤maxLen) :
  ∃ xa,ga μ xa∧Ua xa (some ⟨b,0,none⟩) l.length l∧ra xa J w rs:=by
 have d:=Sep.sx (B:=fun w=>wk w b T cells) h fun w hw=>hw;have hle:ga μ (fun w=>μ w∧wk w b T cells):=fun w hw=>hw.1;refine ⟨_,hle,⟨Nat.le_refl _,hlen,.inr ⟨b,0,rfl,fun i=>(cells.drop (i*fb.sz α)).take (fb.sz α),fun i x e=>⟨?_,fb.up hle (c.get e)⟩⟩⟩,d⟩;intro k f j u a;have g:j<fb.sz α:=by
  have:=(List.getElem?_eq_some_iff.1 a).1;simp at this;omega
 rw [List.getElem?_take_of_lt g,List.getElem?_drop] at a;have:=f.2.cells _ u a;rw [Nat.zero_add] at this ⊢;exact this
theorem _root_.Go.pc.Sep.nn {b:Nat}{cells:List Value}(h:ra μ J w (.ba b T cells::rs)):∃ xa,ga μ xa∧xd xa b 0 cells∧ra xa J w rs :=
 ⟨_,fun _ hw=>hw.1,fun _ hw=>hw.2.cells,Sep.sx (B:=fun w=>wk w b T cells) h fun _ hw=>hw⟩
theorem _root_.Go.pc.Sep.nq {sz:Nat}{b k:Nat}{cells:List Value}{S Ud:Nat→Prop}{A:World→Prop}(h:Sep S Ud J w rs A) (za:Pc rs k (.ba b T cells)) (a:cells.length=n*sz) (hlen:n≤maxLen)
  (c:Xc rs k (.row (.slice (some ⟨b,0,none⟩) n n) T sz n cells) ld):Sep S Ud J w ld A:=by
 have d:wk w b T cells:=h.get za;refine h.put (b:=b) za rfl rfl c ⟨a,.inr ⟨b,0,n,⟨cells⟩,rfl,d,Nat.le_refl _,hlen,by simp [a],by simp [← a]⟩⟩ (Zh.refl _)
theorem Yc {x y:Operand}{v:Value}{b o sz:Nat}{k:IntKind}{i:Int}{e:TypeId}(a:P.underlying T=some (.slice e)) (d:Dd P e ag ae sz m) (f:cc fr x v) (h:cc fr y (.int k i)) (he:pv v sz i b o):hg P (Oper.mk dst (.indexAddr T x y) ty pos after g) fr ((.pointer (some ⟨b,o,none⟩))):=by
 obtain ⟨q,n,c,rfl,j,l,p⟩:=he.out;exact gv a d f h ⟨j,l⟩ p
theorem uc {x y:Operand}{t Rd:TypeId}{a b c:Int}(d:cc fr x (.int .i64 a)) (e:cc fr y (.int .i64 b)) (h:i64 (a+b)=some c):hg P (Oper.mk dst (.binOp .add t x y Rd) ty pos after g) fr ((.int .i64 c)):=KH d e (kB h)
theorem Fj {x y:Operand}{t Rd:TypeId}{a b c:Int}(d:cc fr x (.int .i64 a)) (e:cc fr y (.int .i64 b)) (h:i64 (a - b)=some c):hg P (Oper.mk dst (.binOp .sub t x y Rd) ty pos after g) fr ((.int .i64 c)):=LH d e (kB h)
theorem SG {x y:Operand}{t:TypeId}{k:IntKind}{a:List UInt8}{i:Int}{c:UInt8}(b:P.underlying t=some .string) (d:cc fr x (S a)) (e:cc fr y (.int k i)) (h:at_ a i=some c):hg P (Oper.mk dst (.index t x y) ty pos after g) fr (.int .u8 c.toNat):=NG b d e (Xu h).1 (Xu h).2.2
theorem Nt {x y:Operand}{t:TypeId}{k:IntKind}{a:List UInt8}{i:Int}{c:UInt8}(b:P.underlying t=some .string) (d:cc fr x (S a)) (e:cc fr y (.int k i)) (h:at_ a i=some c) (f:Hg fr dst (.int .u8 c.toNat) db) (kk:K db ds w):lf P (Oper.mk dst (.index t x y) ty pos after g) fr ds w K Q:=Ea (SG b d e h) f kk
theorem Iw {x y:Operand}{t Rd:TypeId}{a b c:List UInt8}(d:cc fr x (S a)) (e:cc fr y (S b)) (h:cat a b=some c):hg P (Oper.mk dst (.binOp .add t x y Rd) ty pos after g) fr (S c):=by
 obtain ⟨rfl,za⟩:=RG h;exact RH d e za
structure Cr (v:Value) (sz:Nat) (i j:Option Int) (b:Value):Prop where
 out:∃ a n c,v=.slice a n c∧0≤i.getD 0∧i.getD 0≤j.getD n∧j.getD n≤c∧b=.slice (if c=(i.getD 0).toNat then a else a.map (·.add ((i.getD 0).toNat*sz))) ((j.getD n).toNat - (i.getD 0).toNat) (c - (i.getD 0).toNat)
inductive ux (fr:List Value):Option Operand→Option Int→Prop where
 | n:ux fr none none
 | s {x:Operand} {i:Int} (h:cc fr x (.int .i64 i)):ux fr (some x) (some i)
theorem Yu {x:Operand}{ri up:Option Operand}{v q:Value}{sz:Nat}{i j:Option Int}{e:TypeId}(f:P.underlying T=some (.slice e)) (k:Dd P e ag ae sz m) (l:cc fr x v) (t:ux fr ri i) (r:ux fr up j) (he:Cr v sz i j q):hg P (Oper.mk dst (.slice T x ri up none) ty pos after g) fr q:=by
 obtain ⟨a,n,c,rfl,o,b,d,rfl⟩:=he.out;refine ⟨fun ds w=>?_⟩;cases t with
 | n =>
  cases r with
  | n =>
   simp at b d;simp [execOp,l ds,Instr.sliceAt,Instr.slice,run_underlying f,Instr.sliceBounds,k.sizeOf];try rfl
  | s h =>
   rename_i y i;simp at b d;have ma:i≤(c:Int):=d;simp [execOp,l ds,h ds,Instr.sliceAt,Instr.slice,run_underlying f,Instr.sliceBounds,Instr.sliceBound,asIntOf,k.sizeOf,b,ma];try rfl
 | s h =>
  rename_i y i;cases r with
  | n =>
   simp at o b d;simp [execOp,l ds,h ds,Instr.sliceAt,Instr.slice,run_underlying f,Instr.sliceBounds,Instr.sliceBound,asIntOf,k.sizeOf,o,b];try rfl
  | s u =>
   rename_i A p;simp at o b d;have ma:0≤p:=by omega
   have z:(p.toNat:Int)=p:=by omega
   simp [execOp,l ds,h ds,u ds,Instr.sliceAt,Instr.slice,run_underlying f,Instr.sliceBounds,Instr.sliceBound,asIntOf,k.sizeOf,o,b,d,ma,z];try rfl
theorem Ua.aJ {α:Type}[fb α]{μ:M}{a:Option Addr}{c:Nat}{xs ys:List α}{i j:Option Int}(h:Ua μ a c xs) (g:cut xs (i.getD 0) (j.getD xs.length)=some ys) :
  ∃ e Fc,Cr (.slice a xs.length c) (fb.sz α) i j (.slice e ys.length Fc)∧Ua μ e Fc ys:=by
 obtain ⟨⟨l,m,r⟩,rfl⟩:=Su g;have hle:=h.le;refine ⟨(if c=(i.getD 0).toNat then a else a.map (·.add ((i.getD 0).toNat*fb.sz α))),c - (i.getD 0).toNat,⟨a,xs.length,c,rfl,l,m,by omega,?_⟩,?_⟩
 ·rw [show ((xs.take (j.getD ↑xs.length).toNat).drop (i.getD 0).toNat).length=(j.getD ↑xs.length).toNat - (i.getD 0).toNat by simp;omega]
 ·refine ⟨by simp;omega,by have:=h.cap;omega,?_⟩;rcases h.el with rfl | ⟨b,o,rfl,f,n⟩
  ·left;simp
  ·by_cases p:c=(i.getD 0).toNat
   ·left;rw [List.drop_eq_nil_iff];simp;omega
   ·right;rw [if_neg p];refine ⟨b,o+(i.getD 0).toNat*fb.sz α,by simp [Dj],fun k=>f ((i.getD 0).toNat+k),fun k x d=>?_⟩;rw [List.getElem?_drop] at d;have q:(i.getD 0).toNat+k<(j.getD ↑xs.length).toNat:=by
     have:=(List.getElem?_eq_some_iff.1 d).1;simp at this;omega
    rw [List.getElem?_take_of_lt q] at d;have:=n _ x d;rw [Nat.add_mul,← Nat.add_assoc] at this;exact this
end
end Go.nd
namespace Go.nd
open Go.pc Go.RowKit
section
variable {P:Program}{Q:Exit→Act→World→Prop}{K:List Value→List Deferred→World→Prop}{fr db:List Value}{ds:List Deferred}{w:World}
variable {dst:Option Tmp}{ty:TypeId}{pos:String}{after:Array Edge}{g:Option (Nat×Bool)}
variable {J:World}{rs ld:List yc}{μ:M}
variable {T:TypeId}{d:TypeDesc}{ag:Bool}{ae:List Value}{n m:Nat}
theorem EF {x ri:Operand}{t:TypeId}{a b:List UInt8}{i:Int}(c:P.underlying t=some .string) (d:cc fr x (S a)) (e:cc fr ri (.int .i64 i)) (h:cut a i a.length=some b):hg P (Oper.mk dst (.slice t x (some ri) none none) ty pos after g) fr (S b):=by
 obtain ⟨⟨f,j,k⟩,rfl⟩:=Su h;have:=mG (dst:=dst) (ty:=ty) (pos:=pos) (after:=after) (g:=g) c d e ⟨f,j⟩;simpa using this
theorem _root_.Go.pc.Row.Ce {v:Value}{sz n:Nat}{xs:List Value}(h:Row w v T sz n xs):Ce v=true:=by
 rcases h.2 with ⟨rfl,_⟩ | ⟨g,o,cap,cur,rfl,_⟩<;>rfl
theorem rr {f:Nat}{xs ys:List Operand}{vs us:List Value}(a:xn fr xs vs) (hu:xn fr ys us):hg P (Oper.mk dst (.makeFunc (.func f) ⟨xs⟩ ⟨ys⟩) ty pos after g) fr (.func (.func f) ⟨vs⟩ ⟨us⟩):=by
 refine ⟨fun ds w=>?_⟩;have b:=a ds;have c:=hu ds;simp [execOp,Instr.makeFunc,b,c]
theorem ua.app {α:Type}[fb α]{cells news:List Value}{l xs ab:List α}(h:ua μ cells l) (k:ua μ news xs) (g:app l xs=some ab):ua μ (cells++news) ab:=by
 obtain ⟨rfl,-⟩:=Hw g;exact ua.cat k h
theorem xy {α:Type}{l xs ab:List α}(g:app l xs=some ab):ab.length=l.length+xs.length∧l.length+xs.length≤4294967296:=by
 obtain ⟨rfl,h⟩:=Hw g;exact ⟨by simp,h⟩
theorem Dg {α:Type}[fb α]{t:TypeId}{s x:Operand}{v:Value}{bytes k b d c:Nat}{cells news:List Value}{l ys ab:List α}(f:P.underlying t=some (.slice T)) (i:Dd P T ag ae (fb.sz α) bytes) (j:ae.length=fb.sz α)
  (m:cc fr s v) (n:cc fr x (.slice (some ⟨b,0,none⟩) d c)) (o:ra μ J w rs) (za:Pc rs k (.row v T (fb.sz α) l.length cells)) (p:tj w b 0 news) (e:ua μ news ys) (hm:ys.length=d) (q:app l ys=some ab) (r:bytes≤4096)
  (h:∀ a w' ld,Xc rs k (.row a T (fb.sz α) ab.length (cells++news)) ld→ra μ J w' ld→yh fr dst a fun db=>K db ds w') :
  lf P (Oper.mk dst (.call { callee:=.builtin .append,args:=#[s,x],argTypes:=#[t,t] }) ty pos after g) fr ds w K Q:=by
 obtain ⟨u,y⟩:=xy q;subst hm;refine my f i (by simp [j,fb.pos]) m n o za p e.len e.Ui ⟨y,r⟩ fun a w' ld z=>h a w' ld (by rw [u];exact z)
theorem _root_.Go.pc.tj.Cg {b o:Nat}{cs:List Value}(h:tj w b o cs) (i n:Nat):tj w b (o+i) ((cs.drop i).take n):=by
 intro j v a;have c:j<n:=by
  have:=(List.getElem?_eq_some_iff.1 a).1;simp at this;omega
 rw [List.getElem?_take_of_lt c,List.getElem?_drop] at a;have:=h _ v a;rw [← Nat.add_assoc] at this;exact this
theorem xd.Cg {b o:Nat}{cs:List Value}(h:xd μ b o cs) (i n:Nat):xd μ b (o+i) ((cs.drop i).take n):=fun w hw=>(h w hw).Cg i n
theorem Ob {x y:Operand}{b k:Nat}{cs vs:List Value}(d:Dd P T ag ae n m) (e:cc fr x (.pointer (some ⟨b,0,none⟩))) (f:cc fr y (.agg ⟨vs⟩)) (i:vs.length=n) (j:vs.all Ce=true)
  {S Ud:Nat→Prop}{A:World→Prop}(l:Sep S Ud J w rs A) {a:TypeId}(za:Pc rs k (.ba b a cs)) (he:cs.length=n) (o:Xc rs k (.ba b a vs) ld)
  (Ba:Hg fr dst undef db) (h:∀ w',Sep S Ud J w' ld A→K db ds w'):lf P (Oper.mk dst (.store T x y) ty pos after g) fr ds w K Q:=by
 have key:∀ (vs cs pre:List Value),vs.length=cs.length→fh (pre++cs) pre.length vs (pre++vs):=by
  intro vs
  induction vs with
  | nil=>intro cs pre h; cases cs with
   | nil=>exact .z
   | cons c cs=>simp at h
  | cons v vs p =>
   intro cs pre h;cases cs with
   | nil=>simp at h
   | cons c cs =>
    refine .s (cs1:=pre++v::cs) (by unfold Xc;simp) (by simp) ?_;have:=p cs (pre++[v]) (by simpa using h);simpa using this
 exact wy d e f rfl i j l za (by simpa using key vs cs [] (by omega)) (by simp) o Ba h
theorem Aw {pl:Array (Nat×Nat)}{xs:List (Nat×Operand)}{out:List Value}(a:Dd P T ag ae n m) (b:Si P T pl) (c:Wb fr pl ae xs out):hg P (Oper.mk dst (.build T ⟨xs⟩) ty pos after g) fr (.agg ⟨out⟩):=by
 refine ⟨fun ds w=>?_⟩;obtain ⟨z,d,e⟩:=a.zero (w:=w);have f:=c.run (ds:=ds);obtain ⟨k,h,j⟩:=b.out;have hm:=j w;have za:((⟨xs⟩:Array (Nat×Operand)).map fun (i,x)=>(i,(F fr ds).eval x)).toList=xs.map fun p=>(p.1,(F fr ds).eval p.2):=by simp
 unfold execOp;simp only [Instr.build,Sem.run_bind,d,Result.andThen_ok,run_underlying h];rw [hm];simp only [Result.andThen_ok,e,za];rw [f];simp
end
end Go.nd
namespace Go.pc
theorem Ca {α:Type}{a0 Da a2 a3 a4 a5 Yb Eb ed a9 v:α}{l:List α}{n:Nat}(h:Pc l n v):Pc (a0::Da::a2::a3::a4::a5::Yb::Eb::ed::a9::l) (n+10) v:=h
theorem hc {α:Type}{a0 Da a2 a3 a4 a5 Yb Eb ed a9 v:α}{l ab:List α}{n:Nat}(h:Xc l n v ab):Xc (a0::Da::a2::a3::a4::a5::Yb::Eb::ed::a9::l) (n+10) v (a0::Da::a2::a3::a4::a5::Yb::Eb::ed::a9::ab):=by unfold Xc at *;subst h;rfl
theorem Qa {α:Type}{a0 Da a2 a3 a4 a5 Yb Eb ed a9 Zc fe a12 Kd Uc Jc a zd b Bc v:α}{l:List α}{n:Nat}(h:Pc l n v):Pc (a0::Da::a2::a3::a4::a5::Yb::Eb::ed::a9::Zc::fe::a12::Kd::Uc::Jc::a::zd::b::Bc::l) (n+20) v:=h
theorem ec {α:Type}{a0 Da a2 a3 a4 a5 Yb Eb ed a9 Zc fe a12 Kd Uc Jc a zd b Bc v:α}{l ab:List α}{n:Nat}(h:Xc l n v ab):Xc (a0::Da::a2::a3::a4::a5::Yb::Eb::ed::a9::Zc::fe::a12::Kd::Uc::Jc::a::zd::b::Bc::l) (n+20) v (a0::Da::a2::a3::a4::a5::Yb::Eb::ed::a9::Zc::fe::a12::Kd::Uc::Jc::a::zd::b::Bc::ab):=by unfold Xc at *;subst h;rfl
theorem Ra {α:Type}{a0 Da a2 a3 a4 a5 Yb Eb ed a9 Zc fe a12 Kd Uc Jc a zd b Bc a20 a21 a22 c a24 d e f a28 g v:α}{l:List α}{n:Nat}(h:Pc l n v):Pc (a0::Da::a2::a3::a4::a5::Yb::Eb::ed::a9::Zc::fe::a12::Kd::Uc::Jc::a::zd::b::Bc::a20::a21::a22::c::a24::d::e::f::a28::g::l) (n+30) v:=h
theorem Lc {α:Type}{a0 Da a2 a3 a4 a5 Yb Eb ed a9 Zc fe a12 Kd Uc Jc a zd b Bc a20 a21 a22 c a24 d e f a28 g v:α}{l ab:List α}{n:Nat}(h:Xc l n v ab):Xc (a0::Da::a2::a3::a4::a5::Yb::Eb::ed::a9::Zc::fe::a12::Kd::Uc::Jc::a::zd::b::Bc::a20::a21::a22::c::a24::d::e::f::a28::g::l) (n+30) v (a0::Da::a2::a3::a4::a5::Yb::Eb::ed::a9::Zc::fe::a12::Kd::Uc::Jc::a::zd::b::Bc::a20::a21::a22::c::a24::d::e::f::a28::g::ab):=by unfold Xc at *;subst h;rfl
theorem Na {α:Type}{a0 Da a2 a3 a4 a5 Yb Eb ed a9 Zc fe a12 Kd Uc Jc a zd b Bc a20 a21 a22 c a24 d e f a28 g i a31 j k m o p a37 q r v:α}{l:List α}{n:Nat}(h:Pc l n v):Pc (a0::Da::a2::a3::a4::a5::Yb::Eb::ed::a9::Zc::fe::a12::Kd::Uc::Jc::a::zd::b::Bc::a20::a21::a22::c::a24::d::e::f::a28::g::i::a31::j::k::m::o::p::a37::q::r::l) (n+40) v:=h
theorem ic {α:Type}{a0 Da a2 a3 a4 a5 Yb Eb ed a9 Zc fe a12 Kd Uc Jc a zd b Bc a20 a21 a22 c a24 d e f a28 g i a31 j k m o p a37 q r v:α}{l ab:List α}{n:Nat}(h:Xc l n v ab):Xc (a0::Da::a2::a3::a4::a5::Yb::Eb::ed::a9::Zc::fe::a12::Kd::Uc::Jc::a::zd::b::Bc::a20::a21::a22::c::a24::d::e::f::a28::g::i::a31::j::k::m::o::p::a37::q::r::l) (n+40) v (a0::Da::a2::a3::a4::a5::Yb::Eb::ed::a9::Zc::fe::a12::Kd::Uc::Jc::a::zd::b::Bc::a20::a21::a22::c::a24::d::e::f::a28::g::i::a31::j::k::m::o::p::a37::q::r::ab):=by unfold Xc at *;subst h;rfl
theorem rb {α:Type}{a0 Da a2 a3 a4 a5 Yb Eb ed a9 Zc fe a12 Kd Uc Jc a zd b Bc a20 a21 a22 c a24 d e f a28 g i a31 j k m o p a37 q r a40 s t u w x a46 y z a49 v:α}{l:List α}{n:Nat}(h:Pc l n v):Pc (a0::Da::a2::a3::a4::a5::Yb::Eb::ed::a9::Zc::fe::a12::Kd::Uc::Jc::a::zd::b::Bc::a20::a21::a22::c::a24::d::e::f::a28::g::i::a31::j::k::m::o::p::a37::q::r::a40::s::t::u::w::x::a46::y::z::a49::l) (n+50) v:=h
theorem Od {α:Type}{a0 Da a2 a3 a4 a5 Yb Eb ed a9 Zc fe a12 Kd Uc Jc a zd b Bc a20 a21 a22 c a24 d e f a28 g i a31 j k m o p a37 q r a40 s t u w x a46 y z a49 v:α}{l ab:List α}{n:Nat}(h:Xc l n v ab):Xc (a0::Da::a2::a3::a4::a5::Yb::Eb::ed::a9::Zc::fe::a12::Kd::Uc::Jc::a::zd::b::Bc::a20::a21::a22::c::a24::d::e::f::a28::g::i::a31::j::k::m::o::p::a37::q::r::a40::s::t::u::w::x::a46::y::z::a49::l) (n+50) v (a0::Da::a2::a3::a4::a5::Yb::Eb::ed::a9::Zc::fe::a12::Kd::Uc::Jc::a::zd::b::Bc::a20::a21::a22::c::a24::d::e::f::a28::g::i::a31::j::k::m::o::p::a37::q::r::a40::s::t::u::w::x::a46::y::z::a49::ab):=by unfold Xc at *;subst h;rfl
theorem Ub {α:Type}{a0 Da a2 a3 a4 a5 Yb Eb ed a9 Zc fe a12 Kd Uc Jc a zd b Bc a20 a21 a22 c a24 d e f a28 g i a31 j k m o p a37 q r a40 s t u w x a46 y z a49 A a51 B a53 C D E F G a59 v:α}{l:List α}{n:Nat}(h:Pc l n v):Pc (a0::Da::a2::a3::a4::a5::Yb::Eb::ed::a9::Zc::fe::a12::Kd::Uc::Jc::a::zd::b::Bc::a20::a21::a22::c::a24::d::e::f::a28::g::i::a31::j::k::m::o::p::a37::q::r::a40::s::t::u::w::x::a46::y::z::a49::A::a51::B::a53::C::D::E::F::G::a59::l) (n+60) v:=h
theorem Pe {α:Type}{a0 Da a2 a3 a4 a5 Yb Eb ed a9 Zc fe a12 Kd Uc Jc a zd b Bc a20 a21 a22 c a24 d e f a28 g i a31 j k m o p a37 q r a40 s t u w x a46 y z a49 A a51 B a53 C D E F G a59 v:α}{l ab:List α}{n:Nat}(h:Xc l n v ab):Xc (a0::Da::a2::a3::a4::a5::Yb::Eb::ed::a9::Zc::fe::a12::Kd::Uc::Jc::a::zd::b::Bc::a20::a21::a22::c::a24::d::e::f::a28::g::i::a31::j::k::m::o::p::a37::q::r::a40::s::t::u::w::x::a46::y::z::a49::A::a51::B::a53::C::D::E::F::G::a59::l) (n+60) v (a0::Da::a2::a3::a4::a5::Yb::Eb::ed::a9::Zc::fe::a12::Kd::Uc::Jc::a::zd::b::Bc::a20::a21::a22::c::a24::d::e::f::a28::g::i::a31::j::k::m::o::p::a37::q::r::a40::s::t::u::w::x::a46::y::z::a49::A::a51::B::a53::C::D::E::F::G::a59::ab):=by unfold Xc at *;subst h;rfl
theorem zc {α:Type}{a0 Da a2 a3 a4 a5 Yb Eb ed a9 Zc fe a12 Kd Uc Jc a zd b Bc a20 a21 a22 c a24 d e f a28 g i a31 j k m o p a37 q r a40 s t u w x a46 y z a49 A a51 B a53 C D E F G a59 H K L M N O P Q R S v:α}{l:List α}{n:Nat}(h:Pc l n v):Pc (a0::Da::a2::a3::a4::a5::Yb::Eb::ed::a9::Zc::fe::a12::Kd::Uc::Jc::a::zd::b::Bc::a20::a21::a22::c::a24::d::e::f::a28::g::i::a31::j::k::m::o::p::a37::q::r::a40::s::t::u::w::x::a46::y::z::a49::A::a51::B::a53::C::D::E::F::G::a59::H::K::L::M::N::O::P::Q::R::S::l) (n+70) v:=h
theorem Ke {α:Type}{a0 Da a2 a3 a4 a5 Yb Eb ed a9 Zc fe a12 Kd Uc Jc a zd b Bc a20 a21 a22 c a24 d e f a28 g i a31 j k m o p a37 q r a40 s t u w x a46 y z a49 A a51 B a53 C D E F G a59 H K L M N O P Q R S v:α}{l ab:List α}{n:Nat}(h:Xc l n v ab):Xc (a0::Da::a2::a3::a4::a5::Yb::Eb::ed::a9::Zc::fe::a12::Kd::Uc::Jc::a::zd::b::Bc::a20::a21::a22::c::a24::d::e::f::a28::g::i::a31::j::k::m::o::p::a37::q::r::a40::s::t::u::w::x::a46::y::z::a49::A::a51::B::a53::C::D::E::F::G::a59::H::K::L::M::N::O::P::Q::R::S::l) (n+70) v (a0::Da::a2::a3::a4::a5::Yb::Eb::ed::a9::Zc::fe::a12::Kd::Uc::Jc::a::zd::b::Bc::a20::a21::a22::c::a24::d::e::f::a28::g::i::a31::j::k::m::o::p::a37::q::r::a40::s::t::u::w::x::a46::y::z::a49::A::a51::B::a53::C::D::E::F::G::a59::H::K::L::M::N::O::P::Q::R::S::ab):=by unfold Xc at *;subst h;rfl
theorem jc {α:Type}{a0 Da a2 a3 a4 a5 Yb Eb ed a9 Zc fe a12 Kd Uc Jc a zd b Bc a20 a21 a22 c a24 d e f a28 g i a31 j k m o p a37 q r a40 s t u w x a46 y z a49 A a51 B a53 C D E F G a59 H K L M N O P Q R S a70 T a72 V W a75 a76 X Y Z v:α}{l:List α}{n:Nat}(h:Pc l n v):Pc (a0::Da::a2::a3::a4::a5::Yb::Eb::ed::a9::Zc::fe::a12::Kd::Uc::Jc::a::zd::b::Bc::a20::a21::a22::c::a24::d::e::f::a28::g::i::a31::j::k::m::o::p::a37::q::r::a40::s::t::u::w::x::a46::y::z::a49::A::a51::B::a53::C::D::E::F::G::a59::H::K::L::M::N::O::P::Q::R::S::a70::T::a72::V::W::a75::a76::X::Y::Z::l) (n+80) v:=h
theorem Me {α:Type}{a0 Da a2 a3 a4 a5 Yb Eb ed a9 Zc fe a12 Kd Uc Jc a zd b Bc a20 a21 a22 c a24 d e f a28 g i a31 j k m o p a37 q r a40 s t u w x a46 y z a49 A a51 B a53 C D E F G a59 H K L M N O P Q R S a70 T a72 V W a75 a76 X Y Z v:α}{l ab:List α}{n:Nat}(h:Xc l n v ab):Xc (a0::Da::a2::a3::a4::a5::Yb::Eb::ed::a9::Zc::fe::a12::Kd::Uc::Jc::a::zd::b::Bc::a20::a21::a22::c::a24::d::e::f::a28::g::i::a31::j::k::m::o::p::a37::q::r::a40::s::t::u::w::x::a46::y::z::a49::A::a51::B::a53::C::D::E::F::G::a59::H::K::L::M::N::O::P::Q::R::S::a70::T::a72::V::W::a75::a76::X::Y::Z::l) (n+80) v (a0::Da::a2::a3::a4::a5::Yb::Eb::ed::a9::Zc::fe::a12::Kd::Uc::Jc::a::zd::b::Bc::a20::a21::a22::c::a24::d::e::f::a28::g::i::a31::j::k::m::o::p::a37::q::r::a40::s::t::u::w::x::a46::y::z::a49::A::a51::B::a53::C::D::E::F::G::a59::H::K::L::M::N::O::P::Q::R::S::a70::T::a72::V::W::a75::a76::X::Y::Z::ab):=by unfold Xc at *;subst h;rfl
theorem qd {α:Type}{a0 Da a2 a3 a4 a5 Yb Eb ed a9 Zc fe a12 Kd Uc Jc a zd b Bc a20 a21 a22 c a24 d e f a28 g i a31 j k m o p a37 q r a40 s t u w x a46 y z a49 A a51 B a53 C D E F G a59 H K L M N O P Q R S a70 T a72 V W a75 a76 X Y Z a80 gc lc rc fd a85 id a87 md rd v:α}{l:List α}{n:Nat}(h:Pc l n v):Pc (a0::Da::a2::a3::a4::a5::Yb::Eb::ed::a9::Zc::fe::a12::Kd::Uc::Jc::a::zd::b::Bc::a20::a21::a22::c::a24::d::e::f::a28::g::i::a31::j::k::m::o::p::a37::q::r::a40::s::t::u::w::x::a46::y::z::a49::A::a51::B::a53::C::D::E::F::G::a59::H::K::L::M::N::O::P::Q::R::S::a70::T::a72::V::W::a75::a76::X::Y::Z::a80::gc::lc::rc::fd::a85::id::a87::md::rd::l) (n+90) v:=h
theorem Sg {α:Type}{a0 Da a2 a3 a4 a5 Yb Eb ed a9 Zc fe a12 Kd Uc Jc a zd b Bc a20 a21 a22 c a24 d e f a28 g i a31 j k m o p a37 q r a40 s t u w x a46 y z a49 A a51 B a53 C D E F G a59 H K L M N O P Q R S a70 T a72 V W a75 a76 X Y Z a80 gc lc rc fd a85 id a87 md rd v:α}{l ab:List α}{n:Nat}(h:Xc l n v ab):Xc (a0::Da::a2::a3::a4::a5::Yb::Eb::ed::a9::Zc::fe::a12::Kd::Uc::Jc::a::zd::b::Bc::a20::a21::a22::c::a24::d::e::f::a28::g::i::a31::j::k::m::o::p::a37::q::r::a40::s::t::u::w::x::a46::y::z::a49::A::a51::B::a53::C::D::E::F::G::a59::H::K::L::M::N::O::P::Q::R::S::a70::T::a72::V::W::a75::a76::X::Y::Z::a80::gc::lc::rc::fd::a85::id::a87::md::rd::l) (n+90) v (a0::Da::a2::a3::a4::a5::Yb::Eb::ed::a9::Zc::fe::a12::Kd::Uc::Jc::a::zd::b::Bc::a20::a21::a22::c::a24::d::e::f::a28::g::i::a31::j::k::m::o::p::a37::q::r::a40::s::t::u::w::x::a46::y::z::a49::A::a51::B::a53::C::D::E::F::G::a59::H::K::L::M::N::O::P::Q::R::S::a70::T::a72::V::W::a75::a76::X::Y::Z::a80::gc::lc::rc::fd::a85::id::a87::md::rd::ab):=by unfold Xc at *;subst h;rfl
theorem ya {α:Type}{a0 Da a2 a3 a4 a5 Yb Eb ed a9 Zc fe a12 Kd Uc Jc a zd b Bc a20 a21 a22 c a24 d e f a28 g i a31 j k m o p a37 q r a40 s t u w x a46 y z a49 A a51 B a53 C D E F G a59 H K L M N O P Q R S a70 T a72 V W a75 a76 X Y Z a80 gc lc rc fd a85 id a87 md rd wd a91 Fd a93 Id be ce ge he le v:α}{l:List α}{n:Nat}(h:Pc l n v):Pc (a0::Da::a2::a3::a4::a5::Yb::Eb::ed::a9::Zc::fe::a12::Kd::Uc::Jc::a::zd::b::Bc::a20::a21::a22::c::a24::d::e::f::a28::g::i::a31::j::k::m::o::p::a37::q::r::a40::s::t::u::w::x::a46::y::z::a49::A::a51::B::a53::C::D::E::F::G::a59::H::K::L::M::N::O::P::Q::R::S::a70::T::a72::V::W::a75::a76::X::Y::Z::a80::gc::lc::rc::fd::a85::id::a87::md::rd::wd::a91::Fd::a93::Id::be::ce::ge::he::le::l) (n+100) v:=h
theorem Ab {α:Type}{a0 Da a2 a3 a4 a5 Yb Eb ed a9 Zc fe a12 Kd Uc Jc a zd b Bc a20 a21 a22 c a24 d e f a28 g i a31 j k m o p a37 q r a40 s t u w x a46 y z a49 A a51 B a53 C D E F G a59 H K L M N O P Q R S a70 T a72 V W a75 a76 X Y Z a80 gc lc rc fd a85 id a87 md rd wd a91 Fd a93 Id be ce ge he le v:α}{l ab:List α}{n:Nat}(h:Xc l n v ab):Xc (a0::Da::a2::a3::a4::a5::Yb::Eb::ed::a9::Zc::fe::a12::Kd::Uc::Jc::a::zd::b::Bc::a20::a21::a22::c::a24::d::e::f::a28::g::i::a31::j::k::m::o::p::a37::q::r::a40::s::t::u::w::x::a46::y::z::a49::A::a51::B::a53::C::D::E::F::G::a59::H::K::L::M::N::O::P::Q::R::S::a70::T::a72::V::W::a75::a76::X::Y::Z::a80::gc::lc::rc::fd::a85::id::a87::md::rd::wd::a91::Fd::a93::Id::be::ce::ge::he::le::l) (n+100) v (a0::Da::a2::a3::a4::a5::Yb::Eb::ed::a9::Zc::fe::a12::Kd::Uc::Jc::a::zd::b::Bc::a20::a21::a22::c::a24::d::e::f::a28::g::i::a31::j::k::m::o::p::a37::q::r::a40::s::t::u::w::x::a46::y::z::a49::A::a51::B::a53::C::D::E::F::G::a59::H::K::L::M::N::O::P::Q::R::S::a70::T::a72::V::W::a75::a76::X::Y::Z::a80::gc::lc::rc::fd::a85::id::a87::md::rd::wd::a91::Fd::a93::Id::be::ce::ge::he::le::ab):=by unfold Xc at *;subst h;rfl
end Go.pc
namespace Go.pc
open Go.RowKit
section
variable {P:Program}{Q:Exit→Act→World→Prop}{K:List Value→List Deferred→World→Prop}{fr db:List Value}{ds:List Deferred}{w:World}
variable {dst:Option Tmp}{ty:TypeId}{pos:String}{after:Array Edge}{g:Option (Nat×Bool)}
variable {S Ud:Nat→Prop}{J:World}{rs ld:List yc}{A:World→Prop}
variable {T:TypeId}
inductive ak:TypeDesc→Value→Prop where
 | str (l:List UInt8):ak .string (pc.S l)
 | int (k:IntKind) (n:Int):ak (.int k) (.int k n)
def Lj:Value→Value→Bool
 | .string a,.string b=>decide (a.data.toList=b.data.toList)
 | .int _ a,.int _ b=>decide (a=b)
 | _,_=>false
def Ll (es:List MapEntry) (k:Value):Option (Nat×Value):=(es.zipIdx.find? fun e=>Lj k e.1.key).map fun e=>(e.2,e.1.val)
theorem uE {d:TypeDesc}{k:Value}(a:ak d k):∀ (es:List MapEntry) (i:Nat),(∀ e ∈ es,ak d e.key)→Instr.findNow d k es i=some (((es.zipIdx i).find? fun e=>Lj k e.1.key).map fun e=>(e.2,e.1.val)):=by
 intro es
 induction es with
 | nil=>intro i _; simp [Instr.findNow]
 | cons e es b =>
  intro i h;have he:=h e (by simp);have c:=b (i+1) fun x f=>h x (by simp [f]);simp only [Instr.findNow,List.zipIdx_cons,List.find?_cons];have g:Instr.sameNow d k e.key=some (Lj k e.key):=by
   generalize e.key=j at he;cases a with
   | str l =>
    cases he with
    | str ab =>
     simp only [Instr.sameNow,pc.S,Lj];congr 1;rw [Bool.eq_iff_iff,ny];simp
   | int kk n =>
    cases he with
    | int _ m =>
     simp only [Instr.sameNow,if_true,Lj];congr 1
  rw [g];cases o:Lj k e.key with
  | true=>simp
  | false=>exact c
theorem run_findKey {Bf:TypeId}{d:TypeDesc}{k:Value}{es:List MapEntry}(a:P.underlying Bf=some d) (b:ak d k) (he:∀ e ∈ es,ak d e.key):(Instr.findKey Bf k es).run P w=.ok (Ll es k) w:=by
 unfold Instr.findKey Ll;simp only [Sem.run_bind,run_underlying a,Result.andThen_ok,uE b es 0 he];rfl
theorem run_checkKey {Bf:TypeId}{d:TypeDesc}{k:Value}{b:Bool}(a:P.underlying Bf=some d) (c:ak d k):(Instr.checkKey b 10000 Bf k).run P w=.ok () w:=by
 show (Instr.checkKey b (9999+1) Bf k).run P w=_;unfold Instr.checkKey;simp only [Sem.run_bind,run_underlying a,Result.andThen_ok];cases c<;>rfl
theorem bn (a:Sep S Ud J w rs A) (h:∀ b w',w.heap.size≤b→Sep S Ud J w' (.map b [] 0::rs) A→yh fr dst (.map (some b)) fun db=>K db ds w'):lf P (Oper.mk dst (.makeMap T none) ty pos after g) fr ds w K Q:=by
 obtain ⟨db,Ba⟩:=Ji fr dst (.map (some w.heap.size));refine mi (v:=.map (some w.heap.size)) (w':=w.alloc (.map #[] 0)) ?_ Ba (h _ _ (Nat.le_refl _) (a.alloc rfl (heap_alloc_new w _)) db Ba);simp [execOp,Instr.makeMap]
def gl (es:List MapEntry) (k z:Value):Value:=(Ll es k).elim z (·.2)
def xr (es:List MapEntry) (k:Value):Bool:=(Ll es k).isSome
def putAt (es:List MapEntry) (c:Nat) (k v:Value):List MapEntry:=match Ll es k with
 | some (i,_)=>es.modify i fun e=>{ e with key:=k,val:=v }
 | none=>es++[{ key:=k,val:=v,born:=c }]
def zo (es:List MapEntry) (c:Nat) (k:Value):Nat:=match Ll es k with
 | some _=>c
 | none=>c+1
theorem vE {es:List MapEntry}{k v:Value}{i:Nat}(h:Ll es k=some (i,v)):∃ e,es[i]?=some e∧Lj k e.key=true∧e.val=v:=by
 unfold Ll at h;cases a:es.zipIdx.find? fun e=>Lj k e.1.key with
 | none=>rw [a] at h; cases h
 | some x =>
  rw [a] at h;simp only [Option.map_some,Option.some.injEq,Prod.mk.injEq] at h;obtain ⟨rfl,rfl⟩:=h;have b:=List.find?_some (p:=fun e:MapEntry×Nat=>Lj k e.1.key) a;have c:=List.mem_of_find?_eq_some a;exact ⟨x.1,by have:=List.mem_zipIdx_iff_getElem?.1 c;simpa using this,b,rfl⟩
theorem hF {d:TypeDesc}{k a:Value}(c:ak d k) (b:ak d a) (h:Lj k a=true):Instr.sameBits 10000 a k=true:=by
 cases c with
 | str l =>
  cases b with
  | str ab =>
   simp [Lj,pc.S] at h;subst h;simp only [Instr.sameBits,pc.S];exact (ny _ _).2 rfl
 | int kk n =>
  cases b with
  | int _ e =>
   simp [Lj] at h;subst h;simp [Instr.sameBits]
theorem mC {x y z:Operand}{Bf aa:TypeId}{d:TypeDesc}{yf v:Value}{b c k:Nat}{es:List MapEntry}(m:P.underlying T=some (.map Bf aa)) (n:P.underlying Bf=some d) (o:cc fr x (.map (some b))) (p:cc fr y yf) (a:ak d yf) (q:cc fr z v)
  (r:Sep S Ud J w rs A) (za:Pc rs k (.map b es c)) (he:∀ e ∈ es,ak d e.key)
  (Ba:Hg fr dst undef db) (h:∀ w' ld,Xc rs k (.map b (putAt es c yf v) (zo es c yf)) ld→Sep S Ud J w' ld A→K db ds w'):lf P (Oper.mk dst (.mapUpdate T x y z) ty pos after g) fr ds w K Q:=by
 have f:w.heap[b]?=some (.map ⟨es⟩ c):=r.get za;have C:b<w.heap.size:=(Array.getElem?_eq_some_iff.1 f).1
 let w':World:={ w with heap:=w.heap.setIfInBounds b (.map ⟨putAt es c yf v⟩ (zo es c yf)) }
 have D:Zh (fun k=>k≠b) w w':=⟨rfl,rfl,rfl,by simp [w'],fun j _ E=>by simp [w',Array.getElem?_setIfInBounds,Ne.symm E]⟩;have F:=r.put (b:=b) (r':=.map b (putAt es c yf v) (zo es c yf)) (w':=w') za rfl rfl rfl (by show w'.heap[b]?=_;simp [w',C]) D;have s:=run_checkKey (P:=P) (w:=w) (b:=false) n a;have t:=run_findKey (P:=P) (w:=w) n a he;refine cz (w':=w') ?_ Ba (h w' _ rfl F);cases l:Ll es yf with
 | none=>simp [execOp,o ds,p ds,q ds,Instr.mapUpdate,run_underlying m,getObj,setObj,Sem.run,f,Result.andThen,s,t,l,w',putAt,zo]
 | some e =>
  obtain ⟨i,u⟩:=e;obtain ⟨e,B,G,-⟩:=vE l;have H:=hF a (he e (List.mem_of_getElem? B)) G;simp [execOp,o ds,p ds,q ds,Instr.mapUpdate,run_underlying m,getObj,setObj,Sem.run,f,Result.andThen,s,t,l,B,Instr.keyThatStays,H,w',putAt,zo]
end
end Go.pc
namespace Go.nd
open Go.pc Go.RowKit
section
variable {P:Program}{Q:Exit→Act→World→Prop}{K:List Value→List Deferred→World→Prop}{fr db:List Value}{ds:List Deferred}{w:World}
variable {dst:Option Tmp}{ty:TypeId}{pos:String}{after:Array Edge}{g:Option (Nat×Bool)}
variable {J:World}{rs ld:List yc}{μ xa:M}
variable {T:TypeId}{d:TypeDesc}{ag:Bool}{ae:List Value}{n m:Nat}
theorem JB {x y:Operand}{Bf aa:TypeId}{d:TypeDesc}{yf z:Value}{b c:Nat}{es:List MapEntry}(a:P.underlying T=some (.map Bf aa)) (f:P.underlying Bf=some d) (i:cc fr x (.map (some b))) (j:cc fr y yf) (k:ak d yf)
  (p:∀ w,(zeroValue aa).run P w=.ok z w) (l:w.heap[b]?=some (.map ⟨es⟩ c)) (he:∀ e ∈ es,ak d e.key)
  (q:Hg fr dst (gl es yf z) db) (h:K db ds w):lf P (Oper.mk dst (.lookup T x y false) ty pos after g) fr ds w K Q:=by
 refine mi (w':=w) ?_ q h;have m:=run_checkKey (w:=w) (b:=es.isEmpty) f k;have n:=run_findKey (w:=w) f k he;cases o:Ll es yf with
 | none=>simp [execOp,i ds,j ds,Instr.lookup,run_underlying a,getObj,Sem.run,l,Result.andThen,m,n,o,p w,gl]
 | some e=>simp [execOp,i ds,j ds,Instr.lookup,run_underlying a,getObj,Sem.run,l,Result.andThen,m,n,o,gl]
theorem lB {x y:Operand}{Bf aa:TypeId}{d:TypeDesc}{yf z:Value}{b c:Nat}{es:List MapEntry}(a:P.underlying T=some (.map Bf aa)) (f:P.underlying Bf=some d) (i:cc fr x (.map (some b))) (j:cc fr y yf) (k:ak d yf)
  (p:∀ w,(zeroValue aa).run P w=.ok z w) (l:w.heap[b]?=some (.map ⟨es⟩ c)) (he:∀ e ∈ es,ak d e.key)
  (q:Hg fr dst (.tuple #[gl es yf z,.bool (xr es yf)]) db) (h:K db ds w):lf P (Oper.mk dst (.lookup T x y true) ty pos after g) fr ds w K Q:=by
 refine mi (w':=w) ?_ q h;have m:=run_checkKey (w:=w) (b:=es.isEmpty) f k;have n:=run_findKey (w:=w) f k he;cases o:Ll es yf with
 | none=>simp [execOp,i ds,j ds,Instr.lookup,run_underlying a,getObj,Sem.run,l,Result.andThen,m,n,o,p w,gl,xr]
 | some e=>simp [execOp,i ds,j ds,Instr.lookup,run_underlying a,getObj,Sem.run,l,Result.andThen,m,n,o,gl,xr]
class Db (κ:Type) [DecidableEq κ] where
 key:κ→Value
 Wh:TypeDesc
 Bf:∀ k,ak Wh (key k)
 eq:∀ a b,Lj (key a) (key b)=decide (a=b)
instance:Db (List UInt8) where
 key:=S
 Wh:=.string
 Bf:=.str
 eq a b:=by simp [Lj,S]
instance:Db Int where
 key n:=.int .i64 n
 Wh:=.int .i64
 Bf:=.int .i64
 eq a b:=by simp [Lj]
class Hh (β:Type) where
 Aj:M→Value→β→Prop
 up:∀ {μ xa:M}{v:Value}{x:β},ga μ xa→Aj μ v x→Aj xa v x
instance:Hh Int where
 Aj _ v x:=v=.int .i64 x
 up _ h:=h
def Jr {α:Type}[fb α] (μ:M) (v:Value) (x:α):Prop:=∃ cs,v=.agg ⟨cs⟩∧fb.cs μ cs x
theorem Jr.up {α:Type}[fb α]{v:Value}{x:α}(l:ga μ xa) (h:Jr μ v x):Jr xa v x:=by
 obtain ⟨cs,a,b⟩:=h;exact ⟨cs,a,fb.up l b⟩
def No {α:Type}[fb α] (μ:M) (v:Value) (x:α):Prop:=∃ b o cs,v=.pointer (some ⟨b,o,none⟩)∧xd μ b o cs∧fb.cs μ cs x
theorem No.up {α:Type}[fb α]{v:Value}{x:α}(l:ga μ xa) (h:No μ v x):No xa v x:=by
 obtain ⟨b,o,cs,a,c,d⟩:=h;exact ⟨b,o,cs,a,c.up l,fb.up l d⟩
def Ih {α:Type}[fb α] (μ:M) (v:Value):Option α→Prop
 | none=>v=.pointer none
 | some x=>No μ v x
theorem Ih.up {α:Type}[fb α]{v:Value}{x:Option α}(h:Ih μ v x) (l:ga μ xa):Ih xa v x:=by
 cases x with
 | none=>exact h
 | some x=>exact No.up l h
theorem Ih.Ce {α:Type}[fb α]{v:Value}{x:Option α}(h:Ih μ v x):Ce v=true:=by
 cases x with
 | none=>rw [show v=.pointer none from h]; rfl
 | some x=>obtain ⟨b,o,cs,rfl,-⟩:=h; rfl
theorem Ih.of {α:Type}[fb α]{b o:Nat}{cs:List Value}{x:α}(h:xd μ b o cs) (k:fb.cs μ cs x):Ih μ (.pointer (some ⟨b,o,none⟩)) (some x):=⟨b,o,cs,rfl,h,k⟩
theorem Ih.get {α:Type}[fb α]{v:Value}{o:Option α}{x:α}(h:Ih μ v o) (g:o=some x):∃ b o cs,v=.pointer (some ⟨b,o,none⟩)∧xd μ b o cs∧fb.cs μ cs x:=by
 subst g;exact h
instance {α:Type}[fb α]:fb (Option α) where
 sz:=1
 pos:=by decide
 cs μ l x:=∃ v,l=[v]∧Ih μ v x
 ch h:=by obtain ⟨v,rfl,-⟩:=h;rfl
 up l h:=by obtain ⟨v,a,b⟩:=h;exact ⟨v,a,b.up l⟩
 Ui h:=by obtain ⟨v,rfl,h⟩:=h;simp [h.Ce]
def yb {κ β:Type}[DecidableEq κ]:List (κ×β)→κ→Option β
 | [],_=>none
 | (a,b)::m,k=>if a=k then some b else yb m k
def Ue {κ β:Type}[DecidableEq κ]:List (κ×β)→κ→β→List (κ×β)
 | [],k,x=>[(k,x)]
 | (a,b)::m,k,x=>if a=k then (k,x)::m else (a,b)::Ue m k x
def Sf {κ β:Type}[DecidableEq κ] [Db κ] [Hh β] (μ:M):List MapEntry→List (κ×β)→Prop
 | [],m=>m=[]
 | e::es,m=>∃ k x t,m=(k,x)::t∧e.key=Db.key k∧Hh.Aj μ e.val x∧Sf μ es t
structure mf {κ β:Type}[DecidableEq κ] [Db κ] [Hh β] (μ:M) (es:List MapEntry) (c:Nat) (m:List (κ×β)):Prop where
 yf:Sf μ es m
 lt:∀ e ∈ es,e.born<c
 inc:es.Pairwise fun a b=>a.born<b.born
variable {κ β:Type}[DecidableEq κ] [Db κ] [Hh β]
theorem Sf.up (l:ga μ xa):∀ {es:List MapEntry}{m:List (κ×β)},Sf μ es m→Sf xa es m
 | [],m,h=>by rw [Sf] at h ⊢; exact h
 | e::es,m,h=>by
  rw [Sf] at h ⊢;obtain ⟨k,x,t,a,b,c,d⟩:=h;exact ⟨k,x,t,a,b,Hh.up l c,Sf.up l d⟩
theorem mf.up {es:List MapEntry}{c:Nat}{m:List (κ×β)}(h:mf μ es c m) (l:ga μ xa):mf xa es c m:=⟨h.yf.up l,h.lt,h.inc⟩
theorem Sf.keys:∀ {es:List MapEntry}{m:List (κ×β)},Sf μ es m→∀ e ∈ es,ak (Db.Wh (κ:=κ)) e.key
 | [],m,_,e,he=>by cases he
 | e::es,m,h,a,he=>by
  rw [Sf] at h;obtain ⟨k,x,t,d,b,f,c⟩:=h;rcases List.mem_cons.1 he with rfl | he
  ·rw [b];exact Db.Bf k
  ·exact Sf.keys c a he
theorem Sf.len:∀ {es:List MapEntry}{m:List (κ×β)},Sf μ es m→es.length=m.length
 | [],m,h=>by rw [Sf] at h; simp [h]
 | e::es,m,h=>by
  rw [Sf] at h;obtain ⟨k,x,t,rfl,b,c,a⟩:=h;simp [Sf.len a]
def Bi (yf:Value):List MapEntry→Option (Nat×Value)
 | []=>none
 | e::es=>if Lj yf e.key then some (0,e.val) else (Bi yf es).map fun p=>(p.1+1,p.2)
theorem KB (yf:Value):∀ (es:List MapEntry) (i:Nat),(((es.zipIdx i).find? fun e=>Lj yf e.1.key).map fun e=>(e.2,e.1.val))=(Bi yf es).map fun p=>(p.1+i,p.2)
 | [],i=>rfl
 | e::es,i=>by
  rw [List.zipIdx_cons,List.find?_cons,Bi];cases h:Lj yf e.key with
  | true=>simp
  | false =>
   simp only [Bool.false_eq_true,if_false];rw [KB yf es (i+1),Option.map_map];congr 1;funext p;simp;omega
theorem nw (es:List MapEntry) (yf:Value):Ll es yf=Bi yf es:=by
 unfold Ll;rw [KB];cases Bi yf es<;>simp
theorem Sf.look:∀ {es:List MapEntry}{m:List (κ×β)},Sf μ es m→∀ k:κ,(match Bi (Db.key k) es with | none=>yb m k=none | some p=>∃ x,yb m k=some x∧Hh.Aj μ p.2 x)
 | [],m,h,k=>by rw [Sf] at h; subst h; rfl
 | e::es,m,h,k=>by
  rw [Sf] at h;obtain ⟨d,x,t,rfl,f,g,i⟩:=h;rw [Bi,yb,f,Db.eq];have a:=Sf.look i k;by_cases b:k=d
  ·subst b;simp;exact g
  ·rw [if_neg (by simpa using b),if_neg (fun e=>b e.symm)];cases c:Bi (Db.key k) es with
   | none=>rw [c] at a; exact a
   | some p=>rw [c] at a; exact a
theorem Sf.get {es:List MapEntry}{m:List (κ×β)}(h:Sf μ es m) (k:κ){z:Value}{zx:β}(b:Hh.Aj μ z zx):Hh.Aj μ (gl es (Db.key k) z) ((yb m k).getD zx):=by
 have:=h.look k;unfold gl;rw [nw];cases a:Bi (Db.key k) es with
 | none=>rw [a] at this; simp only at this; rw [this]; exact b
 | some p=>rw [a] at this; obtain ⟨x,c,d⟩:=this; rw [c]; exact d
theorem Sf.has {es:List MapEntry}{m:List (κ×β)}(h:Sf μ es m) (k:κ):xr es (Db.key k)=(yb m k).isSome:=by
 have:=h.look k;unfold xr;rw [nw];cases a:Bi (Db.key k) es with
 | none=>rw [a] at this; simp only at this; rw [this]; rfl
 | some p=>rw [a] at this; obtain ⟨x,b,c⟩:=this; rw [b]; rfl
theorem Sf.put:∀ {es:List MapEntry}{m:List (κ×β)},Sf μ es m→∀ (k:κ){v:Value}{x:β},Hh.Aj μ v x→∀ c,Sf μ (match Bi (Db.key k) es with | some (i,_)=>es.modify i fun e=>{ e with key:=Db.key k,val:=v } | none=>es++[{ key:=Db.key k,val:=v,born:=c }]) (Ue m k x)
 | [],m,h,k,v,x,a,c=>by
  rw [Sf] at h;subst h;exact ⟨k,x,[],rfl,rfl,a,rfl⟩
 | e::es,m,h,k,v,x,a,c=>by
  rw [Sf] at h;obtain ⟨d,j,t,rfl,f,l,n⟩:=h;rw [Bi,Ue,f,Db.eq];have b:=Sf.put n k a c;by_cases g:k=d
  ·subst g;simp;exact ⟨k,x,t,rfl,rfl,a,n⟩
  ·rw [if_neg (by simpa using g),if_neg (fun e=>g e.symm)];cases o:Bi (Db.key k) es with
   | none=>rw [o] at b; exact ⟨d,j,_,rfl,f,l,b⟩
   | some p=>rw [o] at b; exact ⟨d,j,_,rfl,f,l,b⟩
theorem mf.put {es:List MapEntry}{c:Nat}{m:List (κ×β)}(h:mf μ es c m) (k:κ){v:Value}{x:β}(n:Hh.Aj μ v x):mf μ (putAt es c (Db.key k) v) (zo es c (Db.key k)) (Ue m k x):=by
 have d:=h.yf.put k n c;have ma:∀ i,(es.modify i fun e=>{ e with key:=Db.key k,val:=v }).map (·.born)=es.map (·.born):=by
  intro i;refine List.ext_getElem (by simp) fun j w y=>?_;simp only [List.getElem_map,List.getElem_modify];split<;>rfl
 have o:∀ l:List MapEntry,l.map (·.born)=es.map (·.born)→∀ e ∈ l,e.born<c:=fun l za e he=>by
  have hm:e.born ∈ es.map (·.born):=za ▸ List.mem_map_of_mem he;obtain ⟨q,r,f⟩:=List.mem_map.1 hm;rw [← f];exact h.lt q r
 have s:∀ l:List MapEntry,l.map (·.born)=es.map (·.born)→l.Pairwise fun a b=>a.born<b.born:=fun l za=>by
  have:(es.map (·.born)).Pairwise (·<·):=List.pairwise_map.2 h.inc;rw [← za] at this;exact List.pairwise_map.1 this
 unfold putAt zo;rw [nw];cases g:Bi (Db.key k) es with
 | some p =>
  obtain ⟨i,u⟩:=p;rw [g] at d;exact ⟨d,o _ (ma i),s _ (ma i)⟩
 | none =>
  rw [g] at d;refine ⟨d,fun e he=>?_,?_⟩
  ·rcases List.mem_append.1 he with he | he
   ·exact Nat.lt_succ_of_lt (h.lt e he)
   ·simp at he;subst he;exact Nat.lt_succ_self _
  ·rw [List.pairwise_append];refine ⟨h.inc,by simp,fun a t b f=>?_⟩;simp at f;subst f;exact h.lt a t
theorem mf.nil {c:Nat}:mf (κ:=κ) (β:=β) μ [] c []:=⟨rfl,by simp,by simp⟩
def Wf (μ:M) (b:Nat) (m:List (κ×β)):Prop:=∃ es c,(∀ w,μ w→w.heap[b]?=some (.map ⟨es⟩ c))∧mf μ es c m
theorem Wf.up {b:Nat}{m:List (κ×β)}(h:Wf μ b m) (l:ga μ xa):Wf xa b m:=by
 obtain ⟨es,c,a,d⟩:=h;exact ⟨es,c,fun w hw=>a w (l w hw),d.up l⟩
theorem _root_.Go.pc.Sep.sr {b c:Nat}{es:List MapEntry}{m:List (κ×β)}(h:ra μ J w (.map b es c::rs)) (hm:mf μ es c m):∃ xa,ga μ xa∧Wf xa b m∧ra xa J w rs :=
 ⟨_,fun _ hw=>hw.1,⟨es,c,fun _ hw=>hw.2,hm.up fun _ hw=>hw.1⟩,Sep.sx (B:=fun w=>w.heap[b]?=some (.map ⟨es⟩ c)) h fun _ hw=>hw⟩
theorem LB {x y:Operand}{Bf aa:TypeId}{z:Value}{b c:Nat}{es:List MapEntry}{m:List (κ×β)}{k:κ}{zx:β}(a:P.underlying T=some (.map Bf aa)) (d:P.underlying Bf=some (Db.Wh (κ:=κ))) (e:cc fr x (.map (some b))) (f:cc fr y (Db.key k))
  (i:∀ w,(zeroValue aa).run P w=.ok z w) (j:Hh.Aj μ z zx) (l:w.heap[b]?=some (.map ⟨es⟩ c)) (he:mf μ es c m)
  (h:∀ v,Hh.Aj μ v ((yb m k).getD zx)→yh fr dst (.tuple #[v,.bool (yb m k).isSome]) fun db=>K db ds w):lf P (Oper.mk dst (.lookup T x y true) ty pos after g) fr ds w K Q:=by
 obtain ⟨db,Ba⟩:=Ji fr dst (.tuple #[gl es (Db.key k) z,.bool (xr es (Db.key k))]);refine lB a d e f (Db.Bf k) i l he.yf.keys Ba ?_;rw [he.yf.has k] at Ba;exact h _ (he.yf.get k j) db Ba
theorem tm {x y:Operand}{Bf aa:TypeId}{z:Value}{b c:Nat}{es:List MapEntry}{m:List (κ×β)}{k:κ}{zx:β}(a:P.underlying T=some (.map Bf aa)) (d:P.underlying Bf=some (Db.Wh (κ:=κ))) (e:cc fr x (.map (some b))) (f:cc fr y (Db.key k))
  (i:∀ w,(zeroValue aa).run P w=.ok z w) (j:Hh.Aj μ z zx) (l:w.heap[b]?=some (.map ⟨es⟩ c)) (he:mf μ es c m)
  (h:∀ v,Hh.Aj μ v ((yb m k).getD zx)→yh fr dst v fun db=>K db ds w):lf P (Oper.mk dst (.lookup T x y false) ty pos after g) fr ds w K Q:=by
 obtain ⟨db,Ba⟩:=Ji fr dst (gl es (Db.key k) z);refine JB a d e f (Db.Bf k) i l he.yf.keys Ba ?_;exact h _ (he.yf.get k j) db Ba
theorem Sf.SC {α:Type}[fb α] [Hh α] (hrv:∀ (v:Value) (x:α),Hh.Aj μ v x→No μ v x){es:List MapEntry}{m:List (κ×α)}(h:Sf μ es m) (k:κ):Ih μ (gl es (Db.key k) (.pointer none)) (yb m k):=by
 have:=h.look k;unfold gl;rw [nw];cases a:Bi (Db.key k) es with
 | none=>rw [a] at this; simp only at this; rw [this]; rfl
 | some p=>rw [a] at this; obtain ⟨x,b,c⟩:=this; rw [b]; exact hrv _ _ c
theorem mB {α:Type}[fb α] [Hh α] (hrv:∀ (v:Value) (x:α),Hh.Aj μ v x→No μ v x){x y:Operand}{Bf aa:TypeId}{b c:Nat}{es:List MapEntry}{m:List (κ×α)}{k:κ}(a:P.underlying T=some (.map Bf aa)) (d:P.underlying Bf=some (Db.Wh (κ:=κ))) (e:cc fr x (.map (some b))) (f:cc fr y (Db.key k))
  (i:∀ w,(zeroValue aa).run P w=.ok (.pointer none) w) (j:w.heap[b]?=some (.map ⟨es⟩ c)) (he:mf μ es c m)
  (h:∀ v,Ih μ v (yb m k)→yh fr dst (.tuple #[v,.bool (yb m k).isSome]) fun db=>K db ds w):lf P (Oper.mk dst (.lookup T x y true) ty pos after g) fr ds w K Q:=by
 obtain ⟨db,Ba⟩:=Ji fr dst (.tuple #[gl es (Db.key k) (.pointer none),.bool (xr es (Db.key k))]);refine lB a d e f (Db.Bf k) i j he.yf.keys Ba ?_;rw [he.yf.has k] at Ba;exact h _ (he.yf.SC hrv k) db Ba
theorem Fu {α:Type}[fb α] [Hh α] (hrv:∀ (v:Value) (x:α),Hh.Aj μ v x→No μ v x){x y:Operand}{Bf aa:TypeId}{b c:Nat}{es:List MapEntry}{m:List (κ×α)}{k:κ}(a:P.underlying T=some (.map Bf aa)) (d:P.underlying Bf=some (Db.Wh (κ:=κ))) (e:cc fr x (.map (some b))) (f:cc fr y (Db.key k))
  (i:∀ w,(zeroValue aa).run P w=.ok (.pointer none) w) (j:w.heap[b]?=some (.map ⟨es⟩ c)) (he:mf μ es c m)
  (h:∀ v,Ih μ v (yb m k)→yh fr dst v fun db=>K db ds w):lf P (Oper.mk dst (.lookup T x y false) ty pos after g) fr ds w K Q:=by
 obtain ⟨db,Ba⟩:=Ji fr dst (gl es (Db.key k) (.pointer none));refine JB a d e f (Db.Bf k) i j he.yf.keys Ba ?_;exact h _ (he.yf.SC hrv k) db Ba
theorem Sw {aa:TypeId}{z:Value}(h:(P.info? aa).map (fun i=>i.zero)=some (some z)):∀ w,(zeroValue aa).run P w=.ok z w:=fun w=>by
 cases a:P.info? aa with
 | none=>rw [a] at h; cases h
 | some i =>
  rw [a] at h;simp only [Option.map_some,Option.some.injEq] at h;simp [zeroValue,typeInfo,a,h]
theorem jr {x y z:Operand}{Bf aa:TypeId}{v:Value}{b c k:Nat}{es:List MapEntry}{kk:κ}{m:List (κ×β)}{xx:β}(d:P.underlying T=some (.map Bf aa)) (e:P.underlying Bf=some (Db.Wh (κ:=κ))) (f:cc fr x (.map (some b))) (i:cc fr y (Db.key kk)) (j:cc fr z v) (l:Hh.Aj μ v xx)
  (n:ra μ J w rs) (za:Pc rs k (.map b es c)) (he:mf μ es c m)
  (Ba:Hg fr dst undef db) (h:∀ a Fc w' ld,mf μ a Fc (Ue m kk xx)→Xc rs k (.map b a Fc) ld→ra μ J w' ld→K db ds w'):lf P (Oper.mk dst (.mapUpdate T x y z) ty pos after g) fr ds w K Q :=
 mC d e f i (Db.Bf kk) j n za he.yf.keys Ba fun w' ld=>h _ _ w' ld (he.put kk l)
theorem MB {x y z:Operand}{Bf aa:TypeId}{v:Value}{b c k:Nat}{es:List MapEntry}{kk:κ}{m:List (κ×β)}{xx:β}(d:P.underlying T=some (.map Bf aa)) (e:P.underlying Bf=some (Db.Wh (κ:=κ))) (f:cc fr x (.map (some b))) (i:cc fr y (Db.key kk)) (j:cc fr z v) (l:Hh.Aj μ v xx)
  (n:ra μ J w rs) (za:Pc rs k (.map b es c)) (he:mf μ es c m)
  (Ba:Hg fr dst undef db) (h:∀ a Fc w' ld,mf μ a Fc (Ue m kk xx)→Xc rs k (.map b a Fc) ld→ra μ J w' ld→K db ds w'):lf P (Oper.mk dst (.insert T x y z) ty pos after g) fr ds w K Q :=
 ⟨fun o p=>(jr (dst:=dst) (ty:=ty) (pos:=pos) (after:=after) (g:=g) d e f i j l n za he Ba h).out o p⟩
theorem nC {x:Operand}{Bf aa:TypeId}{b c:Nat}{es:List MapEntry}{m:List (κ×β)}(a:P.underlying T=some (.map Bf aa)) (d:cc fr x (.map (some b))) (e:w.heap[b]?=some (.map ⟨es⟩ c)) (he:mf μ es c m)
  (f:Hg fr dst (.int .i64 m.length) db) (h:K db ds w):lf P (Oper.mk dst (.call { callee:=.builtin .len,args:=#[x],argTypes:=#[T] }) ty pos after g) fr ds w K Q:=by
 refine mi (w':=w) ?_ f h;have:=he.yf.len;simp [execOp,resolve,invoke,builtin,Builtin.len_,goInt,d ds,run_underlying a,getObj,Sem.run,e,Result.andThen,this]
end
end Go.nd
namespace Go.pc
abbrev bf (m:List Db):List Db:=.k::m
abbrev Cc (s:Nat) (m:List Db):List Db:=.o s::m
theorem qc {m:List Db}{a0:Value}{l ab:List Value}(h:Fe m l ab):Fe (bf m) (a0::l) (a0::ab):=(.k h)
theorem Za {m:List Db}{s:Nat}{a0 a:Value}{l ab:List Value}(h:Fe m l ab):Fe (Cc s m) (a0::l) (a::ab):=(.o h)
theorem jf {t:Nat→Value}{m:List Db}{a0:Value}{l ab:List Value}(h:Se t m l ab):Se t (bf m) (a0::l) (a0::ab):=(mk h)
theorem Ec {t:Nat→Value}{m:List Db}{s:Nat}{a0:Value}{l ab:List Value}(h:Se t m l ab):Se t (Cc s m) (a0::l) (t s::ab):=(xc h)
abbrev cf (m:List Db):List Db:=.k::.k::m
abbrev Af (s:Nat) (m:List Db):List Db:=.o s::.o (s+1)::m
theorem vc {m:List Db}{a0 Da:Value}{l ab:List Value}(h:Fe m l ab):Fe (cf m) (a0::Da::l) (a0::Da::ab):=(.k (.k h))
theorem ad {m:List Db}{s:Nat}{a0 Da a Aa:Value}{l ab:List Value}(h:Fe m l ab):Fe (Af s m) (a0::Da::l) (a::Aa::ab):=(.o (.o h))
theorem kf {t:Nat→Value}{m:List Db}{a0 Da:Value}{l ab:List Value}(h:Se t m l ab):Se t (cf m) (a0::Da::l) (a0::Da::ab):=(mk (mk h))
theorem Pf {t:Nat→Value}{m:List Db}{s:Nat}{a0 Da:Value}{l ab:List Value}(h:Se t m l ab):Se t (Af s m) (a0::Da::l) (t s::t (s+1)::ab):=(xc (xc h))
abbrev Uf (m:List Db):List Db:=.k::.k::.k::m
abbrev Ng (s:Nat) (m:List Db):List Db:=.o s::.o (s+1)::.o (s+2)::m
theorem jd {m:List Db}{a0 Da a2:Value}{l ab:List Value}(h:Fe m l ab):Fe (Uf m) (a0::Da::a2::l) (a0::Da::a2::ab):=(.k (.k (.k h)))
theorem ie {m:List Db}{s:Nat}{a0 Da a2 a Aa b:Value}{l ab:List Value}(h:Fe m l ab):Fe (Ng s m) (a0::Da::a2::l) (a::Aa::b::ab):=(.o (.o (.o h)))
theorem eg {t:Nat→Value}{m:List Db}{a0 Da a2:Value}{l ab:List Value}(h:Se t m l ab):Se t (Uf m) (a0::Da::a2::l) (a0::Da::a2::ab):=(mk (mk (mk h)))
theorem ah {t:Nat→Value}{m:List Db}{s:Nat}{a0 Da a2:Value}{l ab:List Value}(h:Se t m l ab):Se t (Ng s m) (a0::Da::a2::l) (t s::t (s+1)::t (s+2)::ab):=(xc (xc (xc h)))
abbrev Qe (m:List Db):List Db:=.k::.k::.k::.k::m
abbrev zh (s:Nat) (m:List Db):List Db:=.o s::.o (s+1)::.o (s+2)::.o (s+3)::m
theorem Hc {m:List Db}{a0 Da a2 a3:Value}{l ab:List Value}(h:Fe m l ab):Fe (Qe m) (a0::Da::a2::a3::l) (a0::Da::a2::a3::ab):=(.k (.k (.k (.k h))))
theorem ye {m:List Db}{s:Nat}{a0 Da a2 a3 a Aa b wb:Value}{l ab:List Value}(h:Fe m l ab):Fe (zh s m) (a0::Da::a2::a3::l) (a::Aa::b::wb::ab):=(.o (.o (.o (.o h))))
theorem Ye {t:Nat→Value}{m:List Db}{a0 Da a2 a3:Value}{l ab:List Value}(h:Se t m l ab):Se t (Qe m) (a0::Da::a2::a3::l) (a0::Da::a2::a3::ab):=(mk (mk (mk (mk h))))
theorem Mh {t:Nat→Value}{m:List Db}{s:Nat}{a0 Da a2 a3:Value}{l ab:List Value}(h:Se t m l ab):Se t (zh s m) (a0::Da::a2::a3::l) (t s::t (s+1)::t (s+2)::t (s+3)::ab):=(xc (xc (xc (xc h))))
abbrev Vf (m:List Db):List Db:=.k::.k::.k::.k::.k::m
abbrev xk (s:Nat) (m:List Db):List Db:=.o s::.o (s+1)::.o (s+2)::.o (s+3)::.o (s+4)::m
theorem ud {m:List Db}{a0 Da a2 a3 a4:Value}{l ab:List Value}(h:Fe m l ab):Fe (Vf m) (a0::Da::a2::a3::a4::l) (a0::Da::a2::a3::a4::ab):=(.k (.k (.k (.k (.k h)))))
theorem uh {m:List Db}{s:Nat}{a0 Da a2 a3 a4 a Aa b wb c:Value}{l ab:List Value}(h:Fe m l ab):Fe (xk s m) (a0::Da::a2::a3::a4::l) (a::Aa::b::wb::c::ab):=(.o (.o (.o (.o (.o h)))))
theorem fg {t:Nat→Value}{m:List Db}{a0 Da a2 a3 a4:Value}{l ab:List Value}(h:Se t m l ab):Se t (Vf m) (a0::Da::a2::a3::a4::l) (a0::Da::a2::a3::a4::ab):=(mk (mk (mk (mk (mk h)))))
theorem il {t:Nat→Value}{m:List Db}{s:Nat}{a0 Da a2 a3 a4:Value}{l ab:List Value}(h:Se t m l ab):Se t (xk s m) (a0::Da::a2::a3::a4::l) (t s::t (s+1)::t (s+2)::t (s+3)::t (s+4)::ab):=(xc (xc (xc (xc (xc h)))))
abbrev Eg (m:List Db):List Db:=.k::.k::.k::.k::.k::.k::m
abbrev ni (s:Nat) (m:List Db):List Db:=.o s::.o (s+1)::.o (s+2)::.o (s+3)::.o (s+4)::.o (s+5)::m
theorem Ld {m:List Db}{a0 Da a2 a3 a4 a5:Value}{l ab:List Value}(h:Fe m l ab):Fe (Eg m) (a0::Da::a2::a3::a4::a5::l) (a0::Da::a2::a3::a4::a5::ab):=(.k (.k (.k (.k (.k (.k h))))))
theorem Zf {m:List Db}{s:Nat}{a0 Da a2 a3 a4 a5 a Aa b wb c zf:Value}{l ab:List Value}(h:Fe m l ab):Fe (ni s m) (a0::Da::a2::a3::a4::a5::l) (a::Aa::b::wb::c::zf::ab):=(.o (.o (.o (.o (.o (.o h))))))
theorem Tg {t:Nat→Value}{m:List Db}{a0 Da a2 a3 a4 a5:Value}{l ab:List Value}(h:Se t m l ab):Se t (Eg m) (a0::Da::a2::a3::a4::a5::l) (a0::Da::a2::a3::a4::a5::ab):=(mk (mk (mk (mk (mk (mk h))))))
theorem Mi {t:Nat→Value}{m:List Db}{s:Nat}{a0 Da a2 a3 a4 a5:Value}{l ab:List Value}(h:Se t m l ab):Se t (ni s m) (a0::Da::a2::a3::a4::a5::l) (t s::t (s+1)::t (s+2)::t (s+3)::t (s+4)::t (s+5)::ab):=(xc (xc (xc (xc (xc (xc h))))))
abbrev xg (m:List Db):List Db:=.k::.k::.k::.k::.k::.k::.k::m
abbrev yg (s:Nat) (m:List Db):List Db:=.o s::.o (s+1)::.o (s+2)::.o (s+3)::.o (s+4)::.o (s+5)::.o (s+6)::m
theorem oe {m:List Db}{a0 Da a2 a3 a4 a5 Yb:Value}{l ab:List Value}(h:Fe m l ab):Fe (xg m) (a0::Da::a2::a3::a4::a5::Yb::l) (a0::Da::a2::a3::a4::a5::Yb::ab):=(.k (.k (.k (.k (.k (.k (.k h)))))))
theorem bd {m:List Db}{s:Nat}{a0 Da a2 a3 a4 a5 Yb a Aa b wb c zf Vg:Value}{l ab:List Value}(h:Fe m l ab):Fe (yg s m) (a0::Da::a2::a3::a4::a5::Yb::l) (a::Aa::b::wb::c::zf::Vg::ab):=(.o (.o (.o (.o (.o (.o (.o h)))))))
theorem Og {t:Nat→Value}{m:List Db}{a0 Da a2 a3 a4 a5 Yb:Value}{l ab:List Value}(h:Se t m l ab):Se t (xg m) (a0::Da::a2::a3::a4::a5::Yb::l) (a0::Da::a2::a3::a4::a5::Yb::ab):=(mk (mk (mk (mk (mk (mk (mk h)))))))
theorem Pg {t:Nat→Value}{m:List Db}{s:Nat}{a0 Da a2 a3 a4 a5 Yb:Value}{l ab:List Value}(h:Se t m l ab):Se t (yg s m) (a0::Da::a2::a3::a4::a5::Yb::l) (t s::t (s+1)::t (s+2)::t (s+3)::t (s+4)::t (s+5)::t (s+6)::ab):=(xc (xc (xc (xc (xc (xc (xc h)))))))
abbrev Fh (m:List Db):List Db:=.k::.k::.k::.k::.k::.k::.k::.k::m
abbrev Ni (s:Nat) (m:List Db):List Db:=.o s::.o (s+1)::.o (s+2)::.o (s+3)::.o (s+4)::.o (s+5)::.o (s+6)::.o (s+7)::m
theorem qf {m:List Db}{a0 Da a2 a3 a4 a5 Yb Eb:Value}{l ab:List Value}(h:Fe m l ab):Fe (Fh m) (a0::Da::a2::a3::a4::a5::Yb::Eb::l) (a0::Da::a2::a3::a4::a5::Yb::Eb::ab):=(.k (.k (.k (.k (.k (.k (.k (.k h))))))))
theorem zg {m:List Db}{s:Nat}{a0 Da a2 a3 a4 a5 Yb Eb a Aa b wb c zf Vg Pd:Value}{l ab:List Value}(h:Fe m l ab):Fe (Ni s m) (a0::Da::a2::a3::a4::a5::Yb::Eb::l) (a::Aa::b::wb::c::zf::Vg::Pd::ab):=(.o (.o (.o (.o (.o (.o (.o (.o h))))))))
theorem Sh {t:Nat→Value}{m:List Db}{a0 Da a2 a3 a4 a5 Yb Eb:Value}{l ab:List Value}(h:Se t m l ab):Se t (Fh m) (a0::Da::a2::a3::a4::a5::Yb::Eb::l) (a0::Da::a2::a3::a4::a5::Yb::Eb::ab):=(mk (mk (mk (mk (mk (mk (mk (mk h))))))))
theorem kj {t:Nat→Value}{m:List Db}{s:Nat}{a0 Da a2 a3 a4 a5 Yb Eb:Value}{l ab:List Value}(h:Se t m l ab):Se t (Ni s m) (a0::Da::a2::a3::a4::a5::Yb::Eb::l) (t s::t (s+1)::t (s+2)::t (s+3)::t (s+4)::t (s+5)::t (s+6)::t (s+7)::ab):=(xc (xc (xc (xc (xc (xc (xc (xc h))))))))
abbrev ih (m:List Db):List Db:=.k::.k::.k::.k::.k::.k::.k::.k::.k::m
abbrev Th (s:Nat) (m:List Db):List Db:=.o s::.o (s+1)::.o (s+2)::.o (s+3)::.o (s+4)::.o (s+5)::.o (s+6)::.o (s+7)::.o (s+8)::m
theorem Ae {m:List Db}{a0 Da a2 a3 a4 a5 Yb Eb ed:Value}{l ab:List Value}(h:Fe m l ab):Fe (ih m) (a0::Da::a2::a3::a4::a5::Yb::Eb::ed::l) (a0::Da::a2::a3::a4::a5::Yb::Eb::ed::ab):=(.k (.k (.k (.k (.k (.k (.k (.k (.k h)))))))))
theorem rf {m:List Db}{s:Nat}{a0 Da a2 a3 a4 a5 Yb Eb ed a Aa b wb c zf Vg Pd Lf:Value}{l ab:List Value}(h:Fe m l ab):Fe (Th s m) (a0::Da::a2::a3::a4::a5::Yb::Eb::ed::l) (a::Aa::b::wb::c::zf::Vg::Pd::Lf::ab):=(.o (.o (.o (.o (.o (.o (.o (.o (.o h)))))))))
theorem vh {t:Nat→Value}{m:List Db}{a0 Da a2 a3 a4 a5 Yb Eb ed:Value}{l ab:List Value}(h:Se t m l ab):Se t (ih m) (a0::Da::a2::a3::a4::a5::Yb::Eb::ed::l) (a0::Da::a2::a3::a4::a5::Yb::Eb::ed::ab):=(mk (mk (mk (mk (mk (mk (mk (mk (mk h)))))))))
theorem oi {t:Nat→Value}{m:List Db}{s:Nat}{a0 Da a2 a3 a4 a5 Yb Eb ed:Value}{l ab:List Value}(h:Se t m l ab):Se t (Th s m) (a0::Da::a2::a3::a4::a5::Yb::Eb::ed::l) (t s::t (s+1)::t (s+2)::t (s+3)::t (s+4)::t (s+5)::t (s+6)::t (s+7)::t (s+8)::ab):=(xc (xc (xc (xc (xc (xc (xc (xc (xc h)))))))))
abbrev dd (m:List Db):List Db:=.k::.k::.k::.k::.k::.k::.k::.k::.k::.k::m
abbrev gd (s:Nat) (m:List Db):List Db:=.o s::.o (s+1)::.o (s+2)::.o (s+3)::.o (s+4)::.o (s+5)::.o (s+6)::.o (s+7)::.o (s+8)::.o (s+9)::m
theorem ib {m:List Db}{a0 Da a2 a3 a4 a5 Yb Eb ed a9:Value}{l ab:List Value}(h:Fe m l ab):Fe (dd m) (a0::Da::a2::a3::a4::a5::Yb::Eb::ed::a9::l) (a0::Da::a2::a3::a4::a5::Yb::Eb::ed::a9::ab):=(.k (.k (.k (.k (.k (.k (.k (.k (.k (.k h))))))))))
theorem lb {m:List Db}{s:Nat}{a0 Da a2 a3 a4 a5 Yb Eb ed a9 a Aa b wb c zf Vg Pd Lf Je:Value}{l ab:List Value}(h:Fe m l ab):Fe (gd s m) (a0::Da::a2::a3::a4::a5::Yb::Eb::ed::a9::l) (a::Aa::b::wb::c::zf::Vg::Pd::Lf::Je::ab):=(.o (.o (.o (.o (.o (.o (.o (.o (.o (.o h))))))))))
theorem hd {t:Nat→Value}{m:List Db}{a0 Da a2 a3 a4 a5 Yb Eb ed a9:Value}{l ab:List Value}(h:Se t m l ab):Se t (dd m) (a0::Da::a2::a3::a4::a5::Yb::Eb::ed::a9::l) (a0::Da::a2::a3::a4::a5::Yb::Eb::ed::a9::ab):=(mk (mk (mk (mk (mk (mk (mk (mk (mk (mk h))))))))))
theorem pd {t:Nat→Value}{m:List Db}{s:Nat}{a0 Da a2 a3 a4 a5 Yb Eb ed a9:Value}{l ab:List Value}(h:Se t m l ab):Se t (gd s m) (a0::Da::a2::a3::a4::a5::Yb::Eb::ed::a9::l) (t s::t (s+1)::t (s+2)::t (s+3)::t (s+4)::t (s+5)::t (s+6)::t (s+7)::t (s+8)::t (s+9)::ab):=(xc (xc (xc (xc (xc (xc (xc (xc (xc (xc h))))))))))
abbrev fc (m:List Db):List Db:=.k::.k::.k::.k::.k::.k::.k::.k::.k::.k::.k::.k::.k::.k::.k::.k::.k::.k::.k::.k::m
abbrev pf (s:Nat) (m:List Db):List Db:=.o s::.o (s+1)::.o (s+2)::.o (s+3)::.o (s+4)::.o (s+5)::.o (s+6)::.o (s+7)::.o (s+8)::.o (s+9)::.o (s+10)::.o (s+11)::.o (s+12)::.o (s+13)::.o (s+14)::.o (s+15)::.o (s+16)::.o (s+17)::.o (s+18)::.o (s+19)::m
theorem Va {m:List Db}{a0 Da a2 a3 a4 a5 Yb Eb ed a9 Zc fe a12 Kd Uc Jc a zd b Bc:Value}{l ab:List Value}(h:Fe m l ab):Fe (fc m) (a0::Da::a2::a3::a4::a5::Yb::Eb::ed::a9::Zc::fe::a12::Kd::Uc::Jc::a::zd::b::Bc::l) (a0::Da::a2::a3::a4::a5::Yb::Eb::ed::a9::Zc::fe::a12::Kd::Uc::Jc::a::zd::b::Bc::ab):=(.k (.k (.k (.k (.k (.k (.k (.k (.k (.k (.k (.k (.k (.k (.k (.k (.k (.k (.k (.k h))))))))))))))))))))
theorem Jb {m:List Db}{s:Nat}{a0 Da a2 a3 a4 a5 Yb Eb ed a9 Zc fe a12 Kd Uc Jc a zd b Bc c Aa d wb e zf Vg Pd Lf Je Ag f Wc Bg g i j k n p:Value}{l ab:List Value}(h:Fe m l ab):Fe (pf s m) (a0::Da::a2::a3::a4::a5::Yb::Eb::ed::a9::Zc::fe::a12::Kd::Uc::Jc::a::zd::b::Bc::l) (c::Aa::d::wb::e::zf::Vg::Pd::Lf::Je::Ag::f::Wc::Bg::g::i::j::k::n::p::ab):=(.o (.o (.o (.o (.o (.o (.o (.o (.o (.o (.o (.o (.o (.o (.o (.o (.o (.o (.o (.o h))))))))))))))))))))
theorem kc {t:Nat→Value}{m:List Db}{a0 Da a2 a3 a4 a5 Yb Eb ed a9 Zc fe a12 Kd Uc Jc a zd b Bc:Value}{l ab:List Value}(h:Se t m l ab):Se t (fc m) (a0::Da::a2::a3::a4::a5::Yb::Eb::ed::a9::Zc::fe::a12::Kd::Uc::Jc::a::zd::b::Bc::l) (a0::Da::a2::a3::a4::a5::Yb::Eb::ed::a9::Zc::fe::a12::Kd::Uc::Jc::a::zd::b::Bc::ab):=(mk (mk (mk (mk (mk (mk (mk (mk (mk (mk (mk (mk (mk (mk (mk (mk (mk (mk (mk (mk h))))))))))))))))))))
theorem xf {t:Nat→Value}{m:List Db}{s:Nat}{a0 Da a2 a3 a4 a5 Yb Eb ed a9 Zc fe a12 Kd Uc Jc a zd b Bc:Value}{l ab:List Value}(h:Se t m l ab):Se t (pf s m) (a0::Da::a2::a3::a4::a5::Yb::Eb::ed::a9::Zc::fe::a12::Kd::Uc::Jc::a::zd::b::Bc::l) (t s::t (s+1)::t (s+2)::t (s+3)::t (s+4)::t (s+5)::t (s+6)::t (s+7)::t (s+8)::t (s+9)::t (s+10)::t (s+11)::t (s+12)::t (s+13)::t (s+14)::t (s+15)::t (s+16)::t (s+17)::t (s+18)::t (s+19)::ab):=(xc (xc (xc (xc (xc (xc (xc (xc (xc (xc (xc (xc (xc (xc (xc (xc (xc (xc (xc (xc h))))))))))))))))))))
abbrev tc (m:List Db):List Db:=.k::.k::.k::.k::.k::.k::.k::.k::.k::.k::.k::.k::.k::.k::.k::.k::.k::.k::.k::.k::.k::.k::.k::.k::.k::.k::.k::.k::.k::.k::.k::.k::.k::.k::.k::.k::.k::.k::.k::.k::.k::.k::.k::.k::.k::.k::.k::.k::.k::.k::m
abbrev Ij (s:Nat) (m:List Db):List Db:=.o s::.o (s+1)::.o (s+2)::.o (s+3)::.o (s+4)::.o (s+5)::.o (s+6)::.o (s+7)::.o (s+8)::.o (s+9)::.o (s+10)::.o (s+11)::.o (s+12)::.o (s+13)::.o (s+14)::.o (s+15)::.o (s+16)::.o (s+17)::.o (s+18)::.o (s+19)::.o (s+20)::.o (s+21)::.o (s+22)::.o (s+23)::.o (s+24)::.o (s+25)::.o (s+26)::.o (s+27)::.o (s+28)::.o (s+29)::.o (s+30)::.o (s+31)::.o (s+32)::.o (s+33)::.o (s+34)::.o (s+35)::.o (s+36)::.o (s+37)::.o (s+38)::.o (s+39)::.o (s+40)::.o (s+41)::.o (s+42)::.o (s+43)::.o (s+44)::.o (s+45)::.o (s+46)::.o (s+47)::.o (s+48)::.o (s+49)::m
theorem gb {m:List Db}{a0 Da a2 a3 a4 a5 Yb Eb ed a9 Zc fe a12 Kd Uc Jc a zd b Bc a20 a21 a22 c a24 d e f a28 g i a31 j n o p q a37 r s a40 t u v w x a46 y z a49:Value}{l ab:List Value}(h:Fe m l ab):Fe (tc m) (a0::Da::a2::a3::a4::a5::Yb::Eb::ed::a9::Zc::fe::a12::Kd::Uc::Jc::a::zd::b::Bc::a20::a21::a22::c::a24::d::e::f::a28::g::i::a31::j::n::o::p::q::a37::r::s::a40::t::u::v::w::x::a46::y::z::a49::l) (a0::Da::a2::a3::a4::a5::Yb::Eb::ed::a9::Zc::fe::a12::Kd::Uc::Jc::a::zd::b::Bc::a20::a21::a22::c::a24::d::e::f::a28::g::i::a31::j::n::o::p::q::a37::r::s::a40::t::u::v::w::x::a46::y::z::a49::ab):=(.k (.k (.k (.k (.k (.k (.k (.k (.k (.k (.k (.k (.k (.k (.k (.k (.k (.k (.k (.k (.k (.k (.k (.k (.k (.k (.k (.k (.k (.k (.k (.k (.k (.k (.k (.k (.k (.k (.k (.k (.k (.k (.k (.k (.k (.k (.k (.k (.k (.k h))))))))))))))))))))))))))))))))))))))))))))))))))
theorem He {m:List Db}{s:Nat}{a0 Da a2 a3 a4 a5 Yb Eb ed a9 Zc fe a12 Kd Uc Jc a zd b Bc a20 a21 a22 c a24 d e f a28 g i a31 j k n p q a37 r t a40 u v w x y a46 z A a49 B Aa C wb D zf Vg Pd Lf Je Ag E Wc Bg F G H K L M N O P Q R S T V W X Y Z gc lc rc fd id md rd wd Fd Id be ce ge he le ne Ne of:Value}{l ab:List Value}(h:Fe m l ab):Fe (Ij s m) (a0::Da::a2::a3::a4::a5::Yb::Eb::ed::a9::Zc::fe::a12::Kd::Uc::Jc::a::zd::b::Bc::a20::a21::a22::c::a24::d::e::f::a28::g::i::a31::j::k::n::p::q::a37::r::t::a40::u::v::w::x::y::a46::z::A::a49::l) (B::Aa::C::wb::D::zf::Vg::Pd::Lf::Je::Ag::E::Wc::Bg::F::G::H::K::L::M::N::O::P::Q::R::S::T::V::W::X::Y::Z::gc::lc::rc::fd::id::md::rd::wd::Fd::Id::be::ce::ge::he::le::ne::Ne::of::ab):=(.o (.o (.o (.o (.o (.o (.o (.o (.o (.o (.o (.o (.o (.o (.o (.o (.o (.o (.o (.o (.o (.o (.o (.o (.o (.o (.o (.o (.o (.o (.o (.o (.o (.o (.o (.o (.o (.o (.o (.o (.o (.o (.o (.o (.o (.o (.o (.o (.o (.o h))))))))))))))))))))))))))))))))))))))))))))))))))
theorem wc {t:Nat→Value}{m:List Db}{a0 Da a2 a3 a4 a5 Yb Eb ed a9 Zc fe a12 Kd Uc Jc a zd b Bc a20 a21 a22 c a24 d e f a28 g i a31 j k n o p a37 q r a40 s u v w x a46 y z a49:Value}{l ab:List Value}(h:Se t m l ab):Se t (tc m) (a0::Da::a2::a3::a4::a5::Yb::Eb::ed::a9::Zc::fe::a12::Kd::Uc::Jc::a::zd::b::Bc::a20::a21::a22::c::a24::d::e::f::a28::g::i::a31::j::k::n::o::p::a37::q::r::a40::s::u::v::w::x::a46::y::z::a49::l) (a0::Da::a2::a3::a4::a5::Yb::Eb::ed::a9::Zc::fe::a12::Kd::Uc::Jc::a::zd::b::Bc::a20::a21::a22::c::a24::d::e::f::a28::g::i::a31::j::k::n::o::p::a37::q::r::a40::s::u::v::w::x::a46::y::z::a49::ab):=(mk (mk (mk (mk (mk (mk (mk (mk (mk (mk (mk (mk (mk (mk (mk (mk (mk (mk (mk (mk (mk (mk (mk (mk (mk (mk (mk (mk (mk (mk (mk (mk (mk (mk (mk (mk (mk (mk (mk (mk (mk (mk (mk (mk (mk (mk (mk (mk (mk (mk h))))))))))))))))))))))))))))))))))))))))))))))))))
theorem uk {t:Nat→Value}{m:List Db}{s:Nat}{a0 Da a2 a3 a4 a5 Yb Eb ed a9 Zc fe a12 Kd Uc Jc a zd b Bc a20 a21 a22 c a24 d e f a28 g i a31 j k n o p a37 q r a40 u v w x y a46 z A a49:Value}{l ab:List Value}(h:Se t m l ab):Se t (Ij s m) (a0::Da::a2::a3::a4::a5::Yb::Eb::ed::a9::Zc::fe::a12::Kd::Uc::Jc::a::zd::b::Bc::a20::a21::a22::c::a24::d::e::f::a28::g::i::a31::j::k::n::o::p::a37::q::r::a40::u::v::w::x::y::a46::z::A::a49::l) (t s::t (s+1)::t (s+2)::t (s+3)::t (s+4)::t (s+5)::t (s+6)::t (s+7)::t (s+8)::t (s+9)::t (s+10)::t (s+11)::t (s+12)::t (s+13)::t (s+14)::t (s+15)::t (s+16)::t (s+17)::t (s+18)::t (s+19)::t (s+20)::t (s+21)::t (s+22)::t (s+23)::t (s+24)::t (s+25)::t (s+26)::t (s+27)::t (s+28)::t (s+29)::t (s+30)::t (s+31)::t (s+32)::t (s+33)::t (s+34)::t (s+35)::t (s+36)::t (s+37)::t (s+38)::t (s+39)::t (s+40)::t (s+41)::t (s+42)::t (s+43)::t (s+44)::t (s+45)::t (s+46)::t (s+47)::t (s+48)::t (s+49)::ab):=(xc (xc (xc (xc (xc (xc (xc (xc (xc (xc (xc (xc (xc (xc (xc (xc (xc (xc (xc (xc (xc (xc (xc (xc (xc (xc (xc (xc (xc (xc (xc (xc (xc (xc (xc (xc (xc (xc (xc (xc (xc (xc (xc (xc (xc (xc (xc (xc (xc (xc h))))))))))))))))))))))))))))))))))))))))))))))))))
theorem ta {m:List Db}{v a:Value}{l ab:List Value}(h:Fe m l ab):Fe (.i v::m) (a::l) (v::ab):=.i h
theorem qa {l:List Value}:Fe [] l l:=.z
end Go.pc
namespace Go.pc
open Go.RowKit
section
variable {P:Program}{Q:Exit→Act→World→Prop}{ops:Array Oper}{fr db:List Value}{ds:List Deferred}{w:World}
theorem Gx (ops:Array Oper) (fr:List Value) (ds:List Deferred) (j:Nat):yielded ops (F fr ds).tmps j=match (ops[j]?).bind (·.dst) with | some s=>(match (F fr ds).eval (.tmp s) with | .bool b=>some b | _=>none) | none=>none:=by
 unfold yielded;cases h:(ops[j]?).bind (·.dst) with
 | none=>simp
 | some s =>
  simp only [Option.bind_some,F,Act.eval];cases a:(⟨fr⟩:Array Value)[s]? with
  | none =>
   have:(⟨fr⟩:Array Value).getD s undef=undef:=by simp [Array.getD_eq_getD_getElem?,a]
   first
    | (simp [a,undef]; done)
    | (rw [this]; simp [undef])
  | some v =>
   have:(⟨fr⟩:Array Value).getD s undef=v:=by simp [Array.getD_eq_getD_getElem?,a]
   first
    | (simp [a]; done)
    | (rw [this]; cases v <;> rfl)
theorem wanted_put {o p:Oper}{fr:List Value}{ds ds':List Deferred}{g:List Value→List Value}(g3:∀ (y:Operand),(∀ e,p.dst=some e→pr y≠some e)→(F (g fr) ds).eval y=(F fr ds).eval y) (c:∀ e,p.dst=some e→(reads ops o).contains e=false) :
  Region.wanted o (yielded ops (F (g fr) ds').tmps)=Region.wanted o (yielded ops (F fr ds').tmps):=by
 have bb:(F (g fr) ds').tmps=(F (g fr) ds).tmps:=rfl;have ma:(F fr ds').tmps=(F fr ds).tmps:=rfl;rw [bb,ma];unfold Region.wanted;cases d:o.guard with
 | none=>rfl
 | some Ti =>
  obtain ⟨j,b⟩:=Ti;simp only;have:yielded ops (F (g fr) ds).tmps j=yielded ops (F fr ds).tmps j:=by
   rw [Gx,Gx];cases f:(ops[j]?).bind (·.dst) with
   | none=>rfl
   | some s =>
    simp only;rw [g3 (.tmp s) fun e he a=>by
     simp [pr] at a;subst a;have:=c s he;unfold reads at this;rw [d] at this;simp [f] at this]
  first
   | rw [this]
   | simp [this]
theorem nB {o:Oper}{j d:Nat}{b Te:Bool}(a:o.guard=some (j,b)) (c:(ops[j]?).bind (·.dst)=some d) (za:Pc fr d (.bool Te)):Region.wanted o (yielded ops (F fr ds).tmps)=(Te == b):=by
 unfold Region.wanted;rw [a];simp only;have:yielded ops (F fr ds).tmps j=some Te:=by
  rw [Gx,c];simp only;rw [aa za ds]
 rw [this];cases b<;>cases Te<;>rfl
theorem Hb {o:Oper}(a:o.guard=none):Region.wanted o (yielded ops (F fr ds).tmps)=true:=by simp [Region.wanted,a]
theorem vw {o:Oper}{j d:Nat}{b:Bool}(a:o.guard=some (j,b)) (c:(ops[j]?).bind (·.dst)=some d) (za:Pc fr d (.bool b)):Region.wanted o (yielded ops (F fr ds).tmps)=true :=
 (nB a c za).trans (by cases b<;>rfl)
end
end Go.pc
namespace Go.pc
open Go.RowKit
section
variable {P:Program}{Q:Exit→Act→World→Prop}{ops:Array Oper}{fr db:List Value}{ds:List Deferred}{w:World}
def waits (ops:Array Oper) (R S:List Nat) (i:Nat):Bool:=S.all fun j=>j == i || S.any fun k=>(Ol ops j).contains k && R.contains k
theorem Il.later {R d:List Nat}(h:Il ops R d) (f:R.Nodup){i:Nat}{S:List Nat}(g:∀ j ∈ S,j=i∨∃ k ∈ S,k ∈ Ol ops j∧k ∈ R):∀ a c,d=a++i::c→i ∉ a→∀ j ∈ a,j ∉ S:=by
 induction h with
 | z=>intro a c h; simp at h
 | @s R d k m t n =>
  intro a c h l j b;cases a with
  | nil=>cases b
  | cons e a =>
   simp only [List.cons_append,List.cons.injEq] at h;obtain ⟨rfl,h⟩:=h;have he:k ∉ S:=fun hm=>by
    rcases g k hm with rfl | ⟨q,q1,q2,q3⟩
    ·exact l (by simp)
    ·exact Qz m q2 q3
   rcases List.mem_cons.1 b with rfl | b
   ·exact he
   ·refine n (f.erase k) (fun j b=>?_) a c h (fun hm=>l (by simp [hm])) j b;rcases g j b with rfl | ⟨q,q1,q2,q3⟩
    ·exact .inl rfl
    ·exact .inr ⟨q,q1,q2,(f.mem_erase_iff).2 ⟨fun e=>he (e ▸ q1),q3⟩⟩
end
end Go.pc
namespace Go.pc
open Go.RowKit
section
variable {P:Program}{Q:Exit→Act→World→Prop}{K:List Value→List Deferred→World→Prop}{fr db:List Value}{ds:List Deferred}{w:World}
variable {dst:Option Tmp}{ty:TypeId}{pos:String}{after:Array Edge}{g:Option (Nat×Bool)}
variable {S Ud:Nat→Prop}{J:World}{rs ld:List yc}{A:World→Prop}
variable {T:TypeId}{d:TypeDesc}{ag:Bool}{ae:List Value}{n m:Nat}
inductive Ot (fr:List Value) (n:Nat):Nat→List (Nat×Operand)→List Value→Prop where
 | z {i:Nat}:Ot fr n i [] []
 | s {i:Nat} {x:Operand} {v:Value} {cs rest:List Value} {xs:List (Nat×Operand)} (a:cc fr x v) (b:v.cells=⟨cs⟩) (c:cs.length=n) (t:Ot fr n (i+1) xs rest):Ot fr n i ((i,x)::xs) (cs++rest)
theorem Ot.fill {i:Nat}{xs:List (Nat×Operand)}{cells:List Value}(h:Ot fr n i xs cells):∀ a:List Value,a.length=i*n+cells.length →
  Instr.fill (fun i=>some (i*n,n)) ⟨a⟩ (xs.map fun p=>(p.1,(F fr ds).eval p.2))=some ⟨a.take (i*n)++cells⟩:=by
 induction h with
 | z=>intro a b; simp at b; simp [Instr.fill,← b]
 | @s i x v cs rest xs f g c t j =>
  intro a b;simp only [List.length_append] at b;have d:(i+1)*n=i*n+n:=by rw [Nat.add_mul,Nat.one_mul]
  simp only [List.map_cons,Instr.fill,f ds,g];have bb:¬ (((⟨cs⟩:Array Value).size≠n || i*n+(⟨cs⟩:Array Value).size > (⟨a⟩:Array Value).size)=true):=by simp [c,b]
  rw [if_neg bb];have k:=Bv cs (i*n) 0 a (by omega);have ma:(⟨cs⟩:Array Value).zipIdx.toList=cs.zipIdx 0:=by simp
  have e:(⟨cs⟩:Array Value).zipIdx.foldl (fun (cs:Array Value) (p:Value×Nat)=>cs.setIfInBounds (i*n+p.2) p.1) ⟨a⟩=⟨a.take (i*n+0)++cs++a.drop (i*n+0+cs.length)⟩:=by
   rw [← Array.foldl_toList,ma];exact k
  first
   | rw [e]
   | (erw [e])
  rw [j _ (by simp [d,c,b];omega)];congr 2;rw [d,c,Nat.add_zero];have:(a.take (i*n)++cs).length=i*n+n:=by simp [c];omega
  rw [← this,List.take_left,List.append_assoc]
theorem Gy {e:TypeId}{len:Nat}{xs:List (Nat×Operand)}{cells:List Value}(f:P.underlying T=some (.slice e)) (c:Dd P e ag ae n m) (a:(decide (0<n) && decide (n≤1000) && decide (0<len) && decide (len≤1000))=true) (j:Ot fr n 0 xs cells) (k:cells.length=len*n) (l:Sep S Ud J w rs A)
  (h:∀ b w',w.heap.size≤b→Sep S Ud J w' (.ba b e cells::rs) A→yh fr dst (.slice (some ⟨b,0,none⟩) len len) fun db=>K db ds w'):lf P (Oper.mk dst (.buildSlice T len ⟨xs⟩) ty pos after g) fr ds w K Q:=by
 obtain ⟨db,Ba⟩:=Ji fr dst (.slice (some ⟨w.heap.size,0,none⟩) len len);refine mi (v:=.slice (some ⟨w.heap.size,0,none⟩) len len) (w':=w.alloc (.cells ⟨cells⟩ e)) ?_ Ba (h _ _ (Nat.le_refl _) (l.alloc rfl (heap_alloc_new w _)) db Ba);obtain ⟨z,o,u⟩:=c.zero (w:=w);have q:=c.sizeOf (w:=w);simp only [Bool.and_eq_true,decide_eq_true_eq] at a;have hmul:len*n≤1000*1000:=Nat.mul_le_mul a.2 a.1.1.2;have r:¬ (len*n > 2 ^ 24):=by omega
 have s:¬ (len*n=0):=by
  have:=Nat.mul_pos a.1.2 a.1.1.1;omega
 have za:((⟨xs⟩:Array (Nat×Operand)).map fun (i,x)=>(i,(F fr ds).eval x)).toList=xs.map fun p=>(p.1,(F fr ds).eval p.2):=by simp
 have d:=j.fill (ds:=ds) ((Array.range (len*n)).map (z.cells[· % z.cells.size]!)).toList (by simp [k]);simp only [execOp,Instr.buildSlice,Sem.run_bind,run_underlying f,Result.andThen_ok,q,if_neg r,if_neg s,o,Sem.run_pure,za];have t:(⟨((Array.range (len*n)).map (z.cells[· % z.cells.size]!)).toList⟩:Array Value)=(Array.range (len*n)).map (z.cells[· % z.cells.size]!):=rfl;rw [t] at d;simp only [d];simp [newRow]
structure uv (P:Program) (c:Code) (Q:Exit→Act→World→Prop) (n:Nat) (fr:List Value) (ds:List Deferred) (w:World):Prop where
 out:Code.rounds P c Q n (F fr ds) w
theorem NB {c:Code}(n:Nat) (h:uv P c Q n fr ds w):ef P (.loop c) Q fr ds w:=⟨wp_loop_rounds n h.out⟩
theorem au {c:Code}{n:Nat}(h:ef P c (Exit.then (fun a w=>∃ fr ds,a=F fr ds∧uv P c Q n fr ds w) Q) fr ds w):uv P c Q (n+1) fr ds w:=⟨by
 rw [rounds_succ];refine wp_mono h.out fun e a w b=>?_;cases e with
 | normal=>obtain ⟨fr,ds,rfl,h⟩:=b; exact h.out
 | exit id=>exact b
 | goto l=>exact b
 | ret=>exact b
 | panic d=>exact b
 | outgrown=>exact b⟩
theorem gx {c:Code}{n:Nat}(h:uv P c Q n fr ds w):Exit.then (fun a w=>∃ fr ds,a=F fr ds∧uv P c Q n fr ds w) Q .normal (F fr ds) w:=⟨_,_,rfl,h⟩
theorem OB {f:Operand}{xs:List Operand}{tys:Array TypeId}{k:FuncId}{first cap vs:List Value}{R:Value→World→Prop}(b:kd P k) (c:cc fr f (.func (.func k) ⟨first⟩ ⟨cap⟩)) (d:xn fr xs vs)
  (i:nc P k (first++vs++cap) w R) (h:∀ v w',R v w'→yh fr dst v fun db=>K db ds w'):lf P (Oper.mk dst (.call { callee:=.value f,args:=⟨xs⟩,argTypes:=tys }) ty pos after g) fr ds w K Q:=by
 refine vy (args:=first++vs++cap) ?_ i h;have j:=c ds;have l:=d ds;have a:=b.out ⟨first++vs++cap⟩ w;have e:(⟨first⟩:Array Value)++(⟨vs⟩:Array Value)++(⟨cap⟩:Array Value)=⟨first++vs++cap⟩:=by
  apply Array.ext';simp
 simp only [List.append_assoc] at a e ⊢;simp [execOp,resolve,j,Deferred.ofValue,invoke,l];first
  | exact a
  | (simpa using a)
end
end Go.pc
namespace Go.nd
open Go.pc Go.RowKit
section
variable {P:Program}{Q:Exit→Act→World→Prop}{K:List Value→List Deferred→World→Prop}{fr db:List Value}{ds:List Deferred}{w:World}
variable {dst:Option Tmp}{ty:TypeId}{pos:String}{after:Array Edge}{g:Option (Nat×Bool)}
variable {J:World}{rs ld:List yc}{μ xa:M}
variable {T:TypeId}{d:TypeDesc}{ag:Bool}{ae:List Value}{n m:Nat}
def okV (R:Value→World→Prop):Ending→World→Prop
 | .returned v,w=>R v w
 | _,_=>False
def Tw (P:Program) (fn:Func) (R:Value→World→Prop):Exit→Act→World→Prop
 | .panic _,_,_=>False
 | e,a,w=>bodyPostD P fn (okV R) e a w
theorem TG {f:FuncId}{fn:Func}{c:Code}{args frm:List Value}{R:Value→World→Prop}(d:P.funcs[f]?=some fn) (g:fn.body=some c)
  (i:args++List.replicate (fn.ntmps - args.length) undef=frm) (h:ef P c (Tw P fn R) frm [] w):nc P f args w R:=by
 refine ⟨Calls.mono (calls_of_wp_defers (R:=okV R) d g ?_) fun e w he=>by cases e<;>exact he⟩;subst i;have ma:(⟨args⟩:Array Value)++Array.replicate (fn.ntmps - args.length) undef=⟨args++List.replicate (fn.ntmps - args.length) undef⟩:=by
  apply Array.ext';simp
 have h:=wp_mono h.out (Q':=bodyPostD P fn (okV R)) fun e a w b=>by
  cases e<;>first | exact b | exact (False.elim b)
 simpa [F,ma] using h
structure yy (P:Program) (f:FuncId) (args:List Value) (w:World) (R:Value→World→Prop):Prop where
 out:∀ u,CallsD P f ⟨args⟩ u w fun e a w'=>a=u∧okV R e w'
theorem qG {f:FuncId}{fn:Func}{c:Code}{args frm:List Value}{R:Value→World→Prop}(d:P.funcs[f]?=some fn) (g:fn.body=some c)
  (j:args++List.replicate (fn.ntmps - args.length) undef=frm) (h:ef P c (sq P fn R) frm [] w):yy P f args w R:=by
 refine ⟨fun u=>callsD_of_wp d g ?_⟩;subst j;have ma:(⟨args⟩:Array Value)++Array.replicate (fn.ntmps - args.length) undef=⟨args++List.replicate (fn.ntmps - args.length) undef⟩:=by
  apply Array.ext';simp
 have h:=wp_mono h.out (Q':=bodyPost P fn (okV R)) fun e a w b=>by
  cases e with
  | normal=>exact b
  | ret=>exact b
  | panic k=>exact b
  | exit i=>exact b
  | goto l=>exact b
  | outgrown=>exact b
 simpa [F,ma] using h
theorem rG {f:Operand}{xs:List Operand}{tys:Array TypeId}{k:FuncId}{cap vs:List Value}(a:cc fr f (.func (.func k) #[] ⟨cap⟩)) (b:xn fr xs vs)
  (c:Hg fr dst undef db) (h:K db (⟨.fn (.func k) ⟨cap⟩,⟨vs⟩⟩::ds) w):lf P (Oper.mk dst (.defer { callee:=.value f,args:=⟨xs⟩,argTypes:=tys }) ty pos after g) fr ds w K Q:=by
 constructor;intro l d;have e:=a ds;have i:=b ds;have j:(execOp (F fr ds).eval (Oper.mk dst (.defer { callee:=.value f,args:=⟨xs⟩,argTypes:=tys }) ty pos after g)).run P w=.ok (.defer ⟨.fn (.func k) ⟨cap⟩,⟨vs⟩⟩) w:=by
  simp [execOp,resolve,e,Deferred.ofValue,i]
 unfold Oper.wp;rw [j];have:=d _ _ _ h;rw [← c _] at this;simpa [Oper.upon,F,Act.put] using this
theorem TC {fn:Func}{R a:Value→World→Prop}{k:FuncId}{cap vs:List Value}(b:kd P k) (d:yy P k (vs++cap) w a) (h:∀ v w',a v w'→Tw P fn R .ret (F fr ds) w') :
  Tw P fn R .ret (F fr (⟨.fn (.func k) ⟨cap⟩,⟨vs⟩⟩::ds)) w:=by
 refine ⟨by simp,.func k,⟨cap⟩,k,⟨vs++cap⟩,rfl,?_,?_⟩
 ·have:=b.out ⟨vs++cap⟩ w;simp [invoke,this]
 ·refine (d.out .returning).mono fun e f w' he=>?_;obtain ⟨rfl,he⟩:=he;cases e with
  | returned v=>exact h v w' he
  | panicked c=>exact he.elim
  | outgrown=>exact he.elim
theorem EC {fn:Func}{R:Value→World→Prop}{a:List ResultVar}{vs:List Value}(b:fn.results=⟨a⟩) (c:sb P fr w a vs) (h:R (Zt vs) w):Tw P fn R .ret (F fr []) w :=
 ⟨_,Pz b c,h⟩
def qb (ms:List (Nat×List MapEntry×Nat)):List yc:=(ms.map fun m=>.map m.1 m.2.1 m.2.2).reverse
def mc (ms:List (Nat×List MapEntry×Nat)):List Value:=ms.map fun m=>.map (some m.1)
variable {κ β:Type}[DecidableEq κ] [Db κ] [Hh β]
def de (μ:M):List (Nat×List MapEntry×Nat)→List (List (κ×β))→Prop
 | [],Nd=>Nd=[]
 | m::ms,Nd=>∃ x t,Nd=x::t∧mf μ m.2.1 m.2.2 x∧de μ ms t
theorem de.up (l:ga μ xa):∀ {ms:List (Nat×List MapEntry×Nat)}{Nd:List (List (κ×β))},de μ ms Nd→de xa ms Nd
 | [],Nd,h=>by rw [de] at h ⊢; exact h
 | m::ms,Nd,h=>by
  rw [de] at h ⊢;obtain ⟨x,t,a,b,c⟩:=h;exact ⟨x,t,a,b.up l,de.up l c⟩
theorem de.get:∀ {ms:List (Nat×List MapEntry×Nat)}{Nd:List (List (κ×β))}{i:Nat}{x:List (κ×β)},de μ ms Nd→Nd[i]?=some x→∃ b es c,ms[i]?=some (b,es,c)∧mf μ es c x
 | [],Nd,i,x,h,a=>by rw [de] at h; subst h; simp at a
 | m::ms,Nd,i,x,h,a=>by
  rw [de] at h;obtain ⟨y,t,rfl,d,e⟩:=h;cases i with
  | zero=>simp at a; subst a; exact ⟨m.1,m.2.1,m.2.2,rfl,d⟩
  | succ i=>simp at a; simpa using de.get e a
theorem de.set:∀ {ms:List (Nat×List MapEntry×Nat)}{Nd:List (List (κ×β))}{i:Nat}{e:Nat×List MapEntry×Nat}{x:List (κ×β)},de μ ms Nd→mf μ e.2.1 e.2.2 x→de μ (ms.set i e) (Nd.set i x)
 | [],Nd,i,e,x,h,a=>by rw [de] at h; subst h; simp [de]
 | m::ms,Nd,i,e,x,h,a=>by
  rw [de] at h;obtain ⟨y,t,rfl,c,b⟩:=h;cases i with
  | zero=>exact ⟨x,t,rfl,a,b⟩
  | succ i=>exact ⟨y,_,rfl,c,de.set b a⟩
theorem de.push:∀ {ms:List (Nat×List MapEntry×Nat)}{Nd:List (List (κ×β))}{e:Nat×List MapEntry×Nat}{x:List (κ×β)},de μ ms Nd→mf μ e.2.1 e.2.2 x→de μ (ms++[e]) (Nd++[x])
 | [],Nd,e,x,h,a=>by rw [de] at h; subst h; exact ⟨x,[],rfl,a,rfl⟩
 | m::ms,Nd,e,x,h,a=>by
  rw [de] at h;obtain ⟨y,t,rfl,b,c⟩:=h;exact ⟨y,_,rfl,b,de.push c a⟩
theorem de.take:∀ {ms:List (Nat×List MapEntry×Nat)}{Nd:List (List (κ×β))}(j:Nat),de μ ms Nd→de μ (ms.take j) (Nd.take j)
 | [],Nd,j,h=>by rw [de] at h; subst h; simp [de]
 | m::ms,Nd,j,h=>by
  rw [de] at h;obtain ⟨y,t,rfl,a,b⟩:=h;cases j with
  | zero=>simp [de]
  | succ j=>exact ⟨y,_,rfl,a,de.take j b⟩
theorem CD (ms:List (Nat×List MapEntry×Nat)) (e:Nat×List MapEntry×Nat):qb (ms++[e])=.map e.1 e.2.1 e.2.2::qb ms:=by simp [qb]
theorem SD {ms:List (Nat×List MapEntry×Nat)}{i b c Fc:Nat}{es a:List MapEntry}(h:ms[i]?=some (b,es,c)):mc (ms.set i (b,a,Fc))=mc ms:=by
 unfold mc;refine List.ext_getElem? fun j=>?_;rw [List.getElem?_map,List.getElem?_map,List.getElem?_set];split
 ·rename_i d;subst d;have e:=(List.getElem?_eq_some_iff.1 h).1;rw [if_pos e,h];rfl
 ·rfl
theorem TD {ms:List (Nat×List MapEntry×Nat)}{i b c:Nat}{es:List MapEntry}(h:ms[i]?=some (b,es,c)):yc.map b es c ∈ qb ms:=by
 unfold qb;rw [List.mem_reverse,List.mem_map];exact ⟨(b,es,c),List.mem_of_getElem? h,rfl⟩
theorem _root_.Go.pc.Sep.FC {pre:List yc}{ms:List (Nat×List MapEntry×Nat)}{i b c:Nat}{es:List MapEntry}(a:ra μ J w (pre++(qb ms++rs))) (h:ms[i]?=some (b,es,c)):w.heap[b]?=some (.map ⟨es⟩ c):=
 a.all (.map b es c) (by simp [TD h])
theorem Row.mapElem {v:Value}{ms:List (Nat×List MapEntry×Nat)}{Nd:List (List (κ×β))}{i:Int}{x:List (κ×β)}(h:Row w v T 1 Nd.length (mc ms)) (hm:de μ ms Nd) (g:at_ Nd i=some x) :
  ∃ b o a es c,pv v 1 i b o∧(∀ w T,Row w v T 1 Nd.length (mc ms)→tj w b o [.map (some a)])∧ms[i.toNat]?=some (a,es,c)∧mf μ es c x:=by
 obtain ⟨k,l,m⟩:=Xu g;obtain ⟨a,es,c,e,n⟩:=hm.get m;obtain ⟨b,o,r,rfl,s⟩:=h.Wt (by omega);refine ⟨b,o+i.toNat,a,es,c,⟨o,_,_,rfl,k,l,by simp⟩,fun t y p j u d=>?_,e,n⟩;obtain ⟨Te,z,Fc,f,q⟩:=p.Wt (by omega);simp at f;obtain ⟨⟨rfl,rfl⟩,rfl⟩:=f;cases j with
 | succ j=>simp at d
 | zero =>
  simp at d;subst d;have:(mc ms)[i.toNat]?=some (.map (some a)):=by unfold mc;rw [List.getElem?_map,e];rfl
  exact q _ _ this
theorem zy {x y z:Operand}{Bf aa:TypeId}{v:Value}{pre:List yc}{ms:List (Nat×List MapEntry×Nat)}{b c i:Nat}{es:List MapEntry}{kk:κ}{q:List (κ×β)}{xx:β}{Nd:List (List (κ×β))}(n:P.underlying T=some (.map Bf aa)) (o:P.underlying Bf=some (Db.Wh (κ:=κ))) (p:cc fr x (.map (some b))) (r:cc fr y (Db.key kk)) (s:cc fr z v) (t:Hh.Aj μ v xx)
  (u:ra μ J w (pre++(qb ms++rs))) (d:ms[i]?=some (b,es,c)) (he:mf μ es c q) (hm:de μ ms Nd)
  (Ba:Hg fr dst undef db) (h:∀ f w',de μ f (Nd.set i (Ue q kk xx))→mc ms=mc f→Nd.length=(Nd.set i (Ue q kk xx)).length→ra μ J w' (pre++(qb f++rs))→K db ds w'):lf P (Oper.mk dst (.mapUpdate T x y z) ty pos after g) fr ds w K Q:=by
 have B:=(List.getElem?_eq_some_iff.1 d).1;have A:(pre++(qb ms++rs))[pre.length+(ms.length - 1 - i)]?=some (.map b es c):=by
  rw [List.getElem?_append_right (by omega),Nat.add_sub_cancel_left,List.getElem?_append_left (by simp [qb];omega)];unfold qb;rw [List.getElem?_reverse (by simp;omega),List.length_map,show ms.length - 1 - (ms.length - 1 - i)=i by omega,List.getElem?_map,d];rfl
 refine mC n o p r (Db.Bf kk) s u A he.yf.keys Ba fun w' ld k l=>h _ w' (hm.set (e:=(b,putAt es c (Db.key kk) v,zo es c (Db.key kk))) (he.put kk t)) (SD d).symm (by simp) ?_;unfold Xc at k;subst k;have e:(pre++(qb ms++rs)).set (pre.length+(ms.length - 1 - i)) (.map b (putAt es c (Db.key kk) v) (zo es c (Db.key kk)))=pre++(qb (ms.set i (b,putAt es c (Db.key kk) v,zo es c (Db.key kk)))++rs):=by
  rw [List.set_append_right _ _ (by omega),Nat.add_sub_cancel_left,List.set_append_left _ _ (by simp [qb];omega)];congr 2;unfold qb;rw [List.map_set];refine List.ext_getElem? fun j=>?_;rcases Nat.lt_or_ge j ms.length with a | a
  ·rw [List.getElem?_set,List.getElem?_reverse (by simpa using a),List.getElem?_reverse (by simpa using a)];simp only [List.length_map,List.length_reverse,List.length_set,List.getElem?_set];by_cases m:ms.length - 1 - i=j
   ·rw [if_pos m,if_pos (by omega),if_pos (by omega),if_pos (by omega)]
   ·rw [if_neg m,if_neg (by omega)]
  ·rw [List.getElem?_eq_none (by simpa using a),List.getElem?_eq_none (by simpa using a)]
 rw [e] at l;exact l
theorem oC {t:TypeId}{s x:Operand}{v:Value}{bytes k b d c:Nat}{ms:List (Nat×List MapEntry×Nat)}{Nd e:List (List (κ×β))}(f:P.underlying t=some (.slice T)) (i:Dd P T ag ae 1 bytes) (j:ae.length=1)
  (l:cc fr s v) (m:cc fr x (.slice (some ⟨b,0,none⟩) 1 c)) (n:ra μ J w rs) (za:Pc rs k (.row v T 1 Nd.length (mc ms))) (o:tj w b 0 [.map (some d)]) (p:app Nd [([]:List (κ×β))]=some e) (q:bytes≤4096)
  (h:∀ a w' ld,Xc rs k (.row a T 1 e.length (mc ms++[.map (some d)])) ld→ra μ J w' ld→yh fr dst a fun db=>K db ds w') :
  lf P (Oper.mk dst (.call { callee:=.builtin .append,args:=#[s,x],argTypes:=#[t,t] }) ty pos after g) fr ds w K Q:=by
 obtain ⟨r,u⟩:=xy p;refine my f i (by simp [j]) l m n za o rfl rfl ⟨u,q⟩ fun a w' ld y=>h a w' ld (by rw [r];exact y)
theorem _root_.Go.pc.Sep.GC {pre:List yc}{ms:List (Nat×List MapEntry×Nat)}{b c:Nat}{es:List MapEntry}(a:ra μ J w (pre++(.map b es c::(qb ms++rs)))):ra μ J w (pre++(qb (ms++[(b,es,c)])++rs)):=by
 rw [CD];exact a
theorem Hz (ms:List (Nat×List MapEntry×Nat)) (b c:Nat) (es:List MapEntry):mc ms++[.map (some b)]=mc (ms++[(b,es,c)]):=by simp [mc]
theorem _root_.Go.pc.Sep.hv {pre:List yc}{ms:List (Nat×List MapEntry×Nat)}{j:Nat}(a:ra μ J w (pre++(qb ms++rs))):ra μ J w (pre++(qb (ms.take j)++rs)):=by
 have c:(pre++(qb (ms.take j)++rs)).Sublist (pre++(qb ms++rs)):=by
  refine (List.Sublist.refl pre).append (List.Sublist.append ?_ (List.Sublist.refl rs));unfold qb;exact ((List.take_sublist j ms).map _).reverse
 refine ⟨a.keeps,fun r e=>a.all r (c.subset e),(c.filterMap _).nodup a.Xi,fun b f=>a.new b ((c.filterMap _).subset f),?_⟩;refine a.jj.mono fun k _ d=>⟨d.1,fun hm=>d.2 ((c.filterMap yc.block).subset hm)⟩
theorem Row.HC {v:Value}{sz:Nat}{xs:List Value}{j:Int}(h:Row w v T sz n xs) (d:0≤j) (p:j≤n) :
  ∃ b,Cr v sz none (some j) b∧b.ownBlock=v.ownBlock∧∀ w T,Row w v T sz n xs→Row w b T sz j.toNat (xs.take (j.toNat*sz)):=by
 have za:∀ w T,Row w v T sz n xs→(xs.take (j.toNat*sz)).length=j.toNat*sz:=fun w T h=>by
  rw [List.length_take,h.1];exact Nat.min_eq_left (Nat.mul_le_mul_right _ (by omega))
 rcases h.2 with ⟨rfl,rfl⟩ | ⟨g,o,cap,cur,rfl,q,r,s,t,u⟩
 ·have:j=0:=by omega
  subst this;exact ⟨.slice none 0 0,⟨none,0,0,rfl,by simp,by simp,by simp,by simp⟩,rfl,fun w T h=>⟨za w T h,.inl ⟨rfl,rfl⟩⟩⟩
 ·refine ⟨.slice (some ⟨g,o,none⟩) j.toNat cap,⟨_,_,_,rfl,by simp,by simpa using d,by simp;omega,?_⟩,rfl,fun e f c=>⟨za e f c,.inr ?_⟩⟩
  ·simp [Dj]
  ·rcases c.2 with ⟨a,_⟩ | ⟨x,y,z,i,a,k,Qb,l,m,De⟩
   ·simp at a
   ·simp at a;obtain ⟨⟨rfl,rfl⟩,rfl⟩:=a;exact ⟨g,o,cap,i,rfl,k,by omega,l,m,by rw [← De,List.take_take,Nat.min_eq_left (Nat.mul_le_mul_right _ (by omega))]⟩
theorem Row.sG {v:Value}{sz:Nat}{xs:List Value}{i:Int}(h:Row w v T sz n xs) (j:0≤i) (k:i≤n) :
  ∃ b,Cr v sz (some i) none b∧b.ownBlock=v.ownBlock∧∀ w T,Row w v T sz n xs→Row w b T sz (n - i.toNat) (xs.drop (i.toNat*sz)):=by
 have za:∀ w T,Row w v T sz n xs→(xs.drop (i.toNat*sz)).length=(n - i.toNat)*sz:=fun w T h=>by
  rw [List.length_drop,h.1,Nat.sub_mul]
 rcases h.2 with ⟨rfl,rfl⟩ | ⟨g,o,cap,cur,rfl,p,q,r,s,t⟩
 ·have:i=0:=by omega
  subst this;exact ⟨.slice none 0 0,⟨none,0,0,rfl,by simp,by simp,by simp,by simp⟩,rfl,fun w T h=>⟨za w T h,.inl ⟨rfl,by simp⟩⟩⟩
 ·refine ⟨_,⟨_,_,_,rfl,by simpa using j,by simpa using k,by simp;omega,rfl⟩,by simp only [Option.getD_some];split<;>simp [Value.ownBlock,Dj],fun l m c=>⟨za l m c,.inr ?_⟩⟩;rcases c.2 with ⟨a,_⟩ | ⟨u,x,y,d,a,e,Qb,z,A,De⟩
  ·simp at a
  ·simp at a;obtain ⟨⟨rfl,rfl⟩,rfl⟩:=a;have hmul:i.toNat*sz+(cap - i.toNat)*sz=cap*sz:=by rw [← Nat.add_mul];congr 1;omega
   by_cases f:cap=i.toNat
   ·refine ⟨g,o,cap - i.toNat,d,by simp [f],e,by omega,by omega,by omega,?_⟩;rw [show n - i.toNat=0 by omega,Nat.zero_mul,List.take_zero,List.drop_eq_nil_of_le (by rw [c.1];exact Nat.mul_le_mul_right _ (by omega))]
   ·refine ⟨g,o+i.toNat*sz,cap - i.toNat,d,by simp [f,Dj],e,by omega,by omega,by omega,?_⟩;rw [← De,← List.drop_drop,List.drop_take,Nat.sub_mul]
theorem ua.drop {α:Type}[fb α]:∀ {l:List α}{cells:List Value}(i:Nat),ua μ cells l→ua μ (cells.drop (i*fb.sz α)) (l.drop i)
 | [],cells,i,h=>by rw [ua] at h; subst h; simp [ua]
 | x::l,cells,0,h=>by simpa using h
 | x::l,cells,i+1,h=>by
  rw [ua] at h;obtain ⟨cs,t,rfl,a,b⟩:=h;have e:(i+1)*fb.sz α=cs.length+i*fb.sz α:=by rw [Nat.add_mul,fb.ch a];omega
  rw [e,← List.drop_drop];simpa using ua.drop i b
theorem Row.FI {α:Type}[fb α]{v:Value}{cells:List Value}{l ab:List α}{i:Int}(h:Row w v T (fb.sz α) l.length cells) (hm:ua μ cells l) (g:cut l i l.length=some ab) :
  ∃ a b,Cr v (fb.sz α) (some i) none a∧a.ownBlock=v.ownBlock∧(∀ w T,Row w v T (fb.sz α) l.length cells→Row w a T (fb.sz α) ab.length b)∧ua μ b ab:=by
 obtain ⟨⟨c,d,k⟩,rfl⟩:=Su g;obtain ⟨a,ma,e,f⟩:=Row.sG h c d;refine ⟨a,cells.drop (i.toNat*fb.sz α),ma,e,fun w T j=>?_,by simpa using hm.drop i.toNat⟩;have:=f w T j;simpa using this
theorem Row.UC {v:Value}{ms:List (Nat×List MapEntry×Nat)}{Nd b:List (List (κ×β))}{j:Int}(h:Row w v T 1 Nd.length (mc ms)) (hm:de μ ms Nd) (g:cut Nd 0 j=some b) :
  ∃ a c,Cr v 1 none (some j) a∧a.ownBlock=v.ownBlock∧(∀ w T,Row w v T 1 Nd.length (mc ms)→Row w a T 1 b.length (mc c))∧de μ c b∧ms.take j.toNat=c:=by
 obtain ⟨⟨l,d,e⟩,rfl⟩:=Su g;obtain ⟨a,ma,f,i⟩:=Row.HC h d e;refine ⟨a,ms.take j.toNat,ma,f,fun w T k=>?_,by simpa using hm.take j.toNat,rfl⟩;have:=i w T k;have el:((Nd.take j.toNat).drop (0:Int).toNat).length=j.toNat:=by simp;omega
 rw [el];have Ma:mc (ms.take j.toNat)=(mc ms).take (j.toNat*1):=by simp [mc]
 rw [Ma];exact this
theorem _root_.Go.pc.Sep.perm {S Ud:Nat→Prop}{A:World→Prop}(h:Sep S Ud J w rs A) (a:rs.Perm ld):Sep S Ud J w ld A where
 keeps:=h.keeps
 all r d:=h.all r (a.mem_iff.2 d)
 Xi:=(a.filterMap _).nodup_iff.1 h.Xi
 new b e:=h.new b ((a.filterMap _).mem_iff.2 e)
 jj:=h.jj.mono fun k _ c=>⟨c.1,fun hm=>c.2 ((a.filterMap yc.block).mem_iff.2 hm)⟩
theorem _root_.Go.pc.Sep.ke {a p M R:List yc}(h:ra μ J w (a++(p++(M++R)))):ra μ J w (a++(M++(p++R))):=
 h.perm (List.Perm.append_left a (by
  rw [← List.append_assoc,← List.append_assoc];exact List.Perm.append_right R List.perm_append_comm))
theorem _root_.Go.pc.Sep.Uw {k:Nat}{v c:Value}{sz e:Nat}{xs f:List Value}{S Ud:Nat→Prop}{A:World→Prop}(a:Sep S Ud J w rs A) (za:Pc rs k (.row v T sz n xs)) (l:c.ownBlock=v.ownBlock) (m:∀ w T,Row w v T sz n xs→Row w c T sz e f) (g:Xc rs k (.row c T sz e f) ld):Sep S Ud J w ld A:=by
 have h:Row w v T sz n xs:=a.get za;cases o:v.ownBlock with
 | some b=>exact a.put (b:=b) (r:=.row v T sz n xs) (r':=.row c T sz e f) za o (l.trans o) g (m _ _ h) (Zh.refl _)
 | none =>
  unfold Xc at g;subst g;have j:=nA (r':=.row c T sz e f) za (show c.ownBlock=v.ownBlock from l);refine ⟨a.keeps,fun r p=>?_,by rw [j];exact a.Xi,by rw [j];exact a.new,by rw [j];exact a.jj⟩;obtain ⟨i,d⟩:=List.mem_iff_getElem?.1 p;rw [List.getElem?_set] at d;split at d
  ·split at d
   ·cases d;exact m _ _ h
   ·cases d
  ·exact a.all r (List.mem_of_getElem? d)
end
end Go.nd
namespace Go.nd
open Go.pc Go.RowKit
theorem Hd {P : Program} {f : FuncId} {fn : Func} (a : P.funcs[f]? = some fn) (b : fn.body.isSome = true := by rfl) (c : (fn.name == "runtime.NumGoroutine") = false := by kernel_rfl) : kd P f := nG a b c
theorem Mf {P : Program}{T : TypeId}{d : TypeDesc}{ag : Bool}{z : Value}{ae : List Value}{n m : Nat}(hu : P.underlying T = some d) (a : dx d = ag := by rfl) (h : (P.info? T).map (fun i => (i.zero, i.size, i.bytes)) = some (some z, n, m):= by kernel_rfl) (b : z.cells = ⟨ae⟩ := by rfl) : Dd P T ag ae n m := SH hu a h b
end Go.nd
namespace Go.nd
open Go.pc Go.RowKit
theorem xh {v:Value}{l:List Value}(h:Ce v=true) (k:l.all Ce=true):(v::l).all Ce=true:=by simp [h,k]
theorem zr:([]:List Value).all Ce=true:=rfl
theorem UD (A vs:List Value) (o q N:Nat) (c:q+vs.length≤N) (d:o+N≤A.length):((A.take (o+q)++vs++A.drop (o+q+vs.length)).drop o).take N=((A.drop o).take N).take q++vs++((A.drop o).take N).drop (q+vs.length):=by
 apply List.ext_getElem?;intro j;simp only [List.getElem?_take,List.getElem?_drop,List.getElem?_append,List.length_append,List.length_take,List.length_drop];have ma:min (o+q) A.length=o+q:=by omega
 have a:min q (min N (A.length - o))=q:=by omega
 rw [ma,a];by_cases b:j<q
 ·have c2:j<N:=by omega
  have c3:j<q+vs.length:=by omega
  simp [b,c2,c3,show o+j<o+q by omega,show o+j<o+q+vs.length by omega]
 ·by_cases c2:j<q+vs.length
  ·rw [if_pos (by omega),if_pos (by omega),if_neg (by omega),if_pos (by omega),if_neg (by omega)];congr 1;omega
  ·by_cases c3:j<N
   ·rw [if_pos c3,if_neg (by omega),if_neg (by omega),if_pos (by omega)];congr 1;omega
   ·rw [if_neg c3,if_neg (by omega),if_neg (by omega)]
section
variable {P:Program}{Q:Exit→Act→World→Prop}{K:List Value→List Deferred→World→Prop}{fr db:List Value}{ds:List Deferred}{w:World}
variable {dst:Option Tmp}{ty:TypeId}{pos:String}{after:Array Edge}{g:Option (Nat×Bool)}
variable {J:World}{rs ld:List yc}{μ xa:M}
variable {T:TypeId}{d:TypeDesc}{ag:Bool}{ae:List Value}{n m:Nat}
theorem oy {x y:Operand}{b o off sz len k:Nat}{i:Int}{v e:Value}{vs xs j:List Value}{a:TypeId}{S Ud:Nat→Prop}{A:World→Prop}(s:Dd P T ag ae n m) (t:cc fr x (.pointer (some ⟨b,o+off,none⟩))) (u:cc fr y e) (f:e.cells=⟨vs⟩) (z:vs.length=n) (B:vs.all Ce=true)
  (l:Sep S Ud J w rs A) (za:Pc rs k (.row v a sz len xs)) (he:pv v sz i b o) (V:off+vs.length≤sz) (C:xs.take (i.toNat*sz+off)++vs++xs.drop (i.toNat*sz+off+vs.length)=j) (D:Xc rs k (.row v a sz len j) ld)
  (Ba:Hg fr dst undef db) (h:∀ w',Sep S Ud J w' ld A→K db ds w'):lf P (Oper.mk dst (.store T x y) ty pos after g) fr ds w K Q:=by
 have E:Row w v a sz len xs:=l.get za;obtain ⟨c,W,c0,rfl,X,Y,rfl⟩:=he.out;obtain ⟨hlen,d⟩:=E;rcases d with ⟨d,-⟩ | ⟨Z,gc,cap,cur,d,F,p,G,lc,H⟩
 ·cases d
 ·cases d;have L:i.toNat<len:=by omega
  have hmul:(i.toNat+1)*sz≤len*sz:=Nat.mul_le_mul_right _ L;have rc:len*sz≤c0*sz:=Nat.mul_le_mul_right _ p;have fd:(i.toNat+1)*sz=i.toNat*sz+sz:=Nat.succ_mul ..;have q:wk w b a cur.toList:=F;have hle:(c+i.toNat*sz+off)+0+vs.length≤(⟨cur.toList⟩:Array Value).size:=by simp;omega
  have r:=run_storeCells_at P b (c+i.toNat*sz+off) a vs 0 ⟨cur.toList⟩ w q hle fun v f=>uw (List.all_eq_true.1 B v f);have ma:e.cells.toList=vs:=by rw [f]
  have M:¬ (e.cells.size≠n):=by rw [f];simpa using z
  have N:=s.sizeOf (w:=w);simp only [Nat.add_zero] at r;have O:Zh (fun k=>k≠b) w (w.setRow b (cur.toList.take (c+i.toNat*sz+off)++vs++cur.toList.drop (c+i.toNat*sz+off+vs.length)).toArray):=⟨rfl,rfl,rfl,by simp [World.setRow],fun k id R=>setRow_other w b k _ R⟩;refine cz ?_ Ba (h _ (l.put (b:=b) za rfl rfl D ?_ O))
  ·simp only [execOp,Instr.storeAt,t ds,u ds,Instr.sureAddr,storeVar,Sem.run_bind,N,Result.andThen_ok,if_neg M,ma,r,Sem.run_pure]
  ·subst C;refine ⟨by simp [hlen];omega,.inr ⟨b,c,c0,_,rfl,setRow_heap w b ⟨cur.toList⟩ _ a (0,0) q,p,G,?_,?_⟩⟩
   ·simp;omega
   ·subst H;have:=UD cur.toList vs c (i.toNat*sz+off) (len*sz) (by omega) (by simp;omega);rw [← Nat.add_assoc] at this;exact this
class iJ (α β:Type) [fb α] [fb β] where
 code:α→List β
 set:α→List β→α
 Ba:M→List Value→α→Prop
 up:∀ {μ xa:M}{l:List Value}{x:α},ga μ xa→Ba μ l x→Ba xa l x
 ch:∀ {μ:M}{l:List Value}{x:α},Ba μ l x→l.length+1=fb.sz α
 wr:∀ {μ:M}{l:List Value}{x:α}{ys:List β}{a:Option Addr}{c:Nat},Ba μ l x→Ua μ a c ys→fb.cs μ (l++[.slice a ys.length c]) (set x ys)
 st:∀ {μ:M}{l:List Value}{x:α}{ys:List β},Ba μ l x→Ba μ l (set x ys)
 Ad:∀ {x:α},set x (code x)=x
 cs:∀ {x:α}{ys:List β},code (set x ys)=ys
variable {α β:Type}[fb α] [fb β] [iJ α β]
end
end Go.nd
namespace Go.pc
open Go.RowKit
section
variable {P:Program}{Q:Exit→Act→World→Prop}{ops:Array Oper}{fr db:List Value}{ds:List Deferred}{w:World}
end
end Go.pc
namespace Go.pc
open Go.RowKit
section
variable {P:Program}{Q:Exit→Act→World→Prop}{ops:Array Oper}{fr db:List Value}{ds:List Deferred}{w:World}
abbrev Mon:=List Nat×(World→Prop)
def Nh (i:Nat) (Xb:List Mon):List Mon:=Xb.filter fun m=>!m.1.contains i
def Ta:List Mon→World→Prop
 | [],_=>True
 | m::l,w=>m.2 w∧Ta l w
theorem Ta.mem {Xb:List Mon}{w:World}:Ta Xb w ↔ ∀ m ∈ Xb,m.2 w:=by
 induction Xb with
 | nil=>simp [Ta]
 | cons m l a=>simp [Ta,a]
theorem Ta.sub {Xb Ns':List Mon}(h:Ta Xb w) (a:∀ m ∈ Ns',m ∈ Xb):Ta Ns' w:=Ta.mem.2 fun m hm=>Ta.mem.1 h m (a m hm)
theorem Bw {i:Nat}{Xb:List Mon}:∀ m ∈ Nh i Xb,m ∈ Xb:=fun m hm=>(List.mem_filter.1 hm).1
theorem xw {i:Nat}{Xb Ns':List Mon}(h:∀ m ∈ Ns',m ∈ Xb):∀ m ∈ Nh i Ns',m ∈ Nh i Xb:=fun m hm=>List.mem_filter.2 ⟨h m (List.mem_filter.1 hm).1,(List.mem_filter.1 hm).2⟩
def Yg (P:Program) (ops:Array Oper) (Q:Exit→Act→World→Prop):List Mon→List Nat→Act→World→Prop
 | _,[],a,w=>Q .normal a w
 | Xb,i::rest,a,w =>
  match ops[i]? with
  | none=>Yg P ops Q (Nh i Xb) rest a w
  | some o =>
   if Region.wanted o (yielded ops a.tmps) then o.wp P a w (fun a w=>Ta (Nh i Xb) w∧Yg P ops Q (Nh i Xb) rest a w) Q∨(o.asks P a w∧LetsOut Q)
   else Yg P ops Q (Nh i Xb) rest (a.put o.dst undef) w
theorem Hy {o:Oper}{a:Act}{K c:Act→World→Prop}(h:o.wp P a w K Q) (b:∀ a w,K a w→c a w):o.wp P a w c Q:=by
 unfold Oper.wp at h ⊢;cases d:(execOp a.eval o).run P w with
 | halt e w'=>rw [d] at h; cases e <;> exact h
 | ok r w' =>
  rw [d] at h;cases r with
  | value x=>exact b _ _ h
  | skip=>exact b _ _ h
  | defer i=>exact b _ _ h
  | enter f args =>
   rw [Oper.upon_enter] at h ⊢;refine Calls.mono h fun e g he=>?_;cases e with
   | returned x=>exact b _ _ he
   | panicked j=>exact he
   | outgrown=>exact he
  | row r args =>
   rw [Oper.upon_row] at h ⊢;exact Rows.mono h fun x g he=>b _ _ he
  | _=>exact h
theorem Yg.mono:∀ (b:List Nat){Xb Ns':List Mon}{a:Act}{w:World},Yg P ops Q Xb b a w→(∀ m ∈ Ns',m ∈ Xb)→Yg P ops Q Ns' b a w
 | [],_,_,_,_,h,_=>h
 | i::b,Xb,Ns',a,w,h,c=>by
  simp only [Yg] at h ⊢;cases d:ops[i]? with
  | none=>rw [d] at h; exact Yg.mono b h (xw c)
  | some o =>
   rw [d] at h;simp only at h ⊢;split
   ·rename_i hw;rw [if_pos hw] at h;rcases h with h | h
    ·exact .inl (Hy h fun a w ⟨e,f⟩=>⟨e.sub (xw c),Yg.mono b f (xw c)⟩)
    ·exact .inr h
   ·rename_i hw;rw [if_neg hw] at h;exact Yg.mono b h (xw c)
theorem Yg.plain:∀ (b:List Nat){Xb:List Mon}{a:Act}{w:World},Yg P ops Q Xb b a w→wpOps P ops Q b a w
 | [],_,_,_,h=>h
 | i::b,Xb,a,w,h=>by
  simp only [Yg] at h;simp only [wpOps];cases c:ops[i]? with
  | none=>rw [c] at h; exact Yg.plain b h
  | some o =>
   rw [c] at h;simp only at h ⊢;split
   ·rename_i hw;rw [if_pos hw] at h;rcases h with h | h
    ·exact .inl (Hy h fun a w ⟨_,d⟩=>Yg.plain b d)
    ·exact .inr h
   ·rename_i hw;rw [if_neg hw] at h;exact Yg.plain b h
theorem ez (q:fl Q){N:World→Prop}{S:List Nat}{i d:Nat}{o:Oper}{v:Value}(A:ops[i]?=some o) (Ba:o.dst=some d){wt:Bool}(B:wt=false→v=undef) :
  ∀ (a b:List Nat) (fr:List Value) (ds:List Deferred) (w:World) (Xb:List Mon),
   (∀ j ∈ a,j ∉ S∧match ops[j]? with
    | some p=>vr p.op=true∧(reads ops p).contains d=false∧p.dst≠some d∧(∀ e,p.dst=some e→(reads ops o).contains e=false)
    | none=>True) →
   N w→Ta Xb w→vr o.op=true→Region.wanted o (yielded ops (F fr ds).tmps)=wt →
   (wt=true→∀ ds w,N w→(execOp (F fr ds).eval o).run P w=.ok (.value v) w) →
   Yg P ops Q ((S,N)::Xb) (a++b) (F (fr.set d v) ds) w→Yg P ops Q Xb (a++i::b) (F fr ds) w
 | [],b,fr,ds,w,Xb,_,hw,s,t,c,u,h=>by
  simp only [List.nil_append] at h ⊢;have h:=Yg.mono b h (Ns':=Nh i Xb) fun m hm=>List.mem_cons_of_mem _ (Bw m hm);simp only [Yg,A];cases wt with
  | true =>
   rw [if_pos c];left;unfold Oper.wp;rw [u rfl ds w hw,Oper.upon_value,Ba];rw [show (F fr ds).put (some d) v=F (fr.set d v) ds from ka rfl ds];exact ⟨s.sub Bw,h⟩
  | false =>
   rw [if_neg (by rw [c];simp),Ba,← B rfl];rw [show (F fr ds).put (some d) v=F (fr.set d v) ds from ka rfl ds];exact h
 | j::a,b,fr,ds,w,Xb,H,hw,s,t,c,u,h=>by
  obtain ⟨V,C⟩:=H j (by simp);have K:∀ k ∈ a,_:=fun k l=>H k (by simp [l]);have W:Nh j ((S,N)::Xb)=(S,N)::Nh j Xb:=by simp [Nh,V]
  simp only [List.cons_append,Yg,W] at h ⊢;cases L:ops[j]? with
  | none =>
   rw [L] at h;simp only at h ⊢;exact ez q A Ba B a b fr ds w _ K hw (s.sub Bw) t c u h
  | some p =>
   rw [L] at h C;simp only at h C ⊢;obtain ⟨M,D,X,O⟩:=C;rw [tE (fr:=fr) (v:=v) (ds:=ds) (ds':=ds) D] at h;have key:∀ (x:Value) (w':World) (ds':List Deferred),N w'→Ta (Nh j Xb) w'→Yg P ops Q ((S,N)::Nh j Xb) (a++b) ((F (fr.set d v) ds').put p.dst x) w'→Yg P ops Q (Nh j Xb) (a++i::b) ((F fr ds').put p.dst x) w':=by
    intro x w' ds' Y Z l;obtain ⟨g,g1,g2,g3⟩:=put_eq fr ds' p.dst x;have gc:=wanted_put (ops:=ops) (o:=o) (p:=p) (ds':=ds') (fun y E=>g3 fr y ds' ds' E) O;rw [g1] at l ⊢;rw [g2 _ _ _ X] at l;refine ez q A Ba B a b (g fr) ds' w' _ K Y Z t (gc.trans c) (fun lc n rc fd=>?_) l;rw [show execOp (F (g fr) n).eval o=execOp (F fr n).eval o from execOp_congr o t fun y E=>g3 fr y n n fun e he id=>by
     exact iB (O e he) y E id]
    exact u lc n rc fd
   by_cases R:Region.wanted p (yielded ops (F fr ds).tmps)=true
   ·rw [if_pos R] at h ⊢;rcases h with h | h
    ·left;unfold Oper.wp at h ⊢;rw [jB (ds':=ds) M D] at h;cases T:(execOp (F fr ds).eval p).run P w with
     | halt e w' =>
      rw [T] at h;cases e<;>first | exact h | exact q _ (F (fr.set d v) ds) _ w' rfl h
     | ok r w' =>
      rw [T] at h;cases r with
      | value x=>exact ⟨h.1.2,key x w' ds h.1.1 h.1.2 h.2⟩
      | skip=>exact ⟨h.1.2,key undef w' ds h.1.1 h.1.2 h.2⟩
      | defer md=>exact ⟨h.1.2,key undef w' (md::ds) h.1.1 h.1.2 h.2⟩
      | enter f args =>
       rw [Oper.upon_enter] at h ⊢;refine Calls.mono h fun e z he=>?_;cases e with
       | returned x=>exact ⟨he.1.2,key x z ds he.1.1 he.1.2 he.2⟩
       | panicked rd=>exact q rd (F (fr.set d v) ds) _ z rfl he
       | outgrown=>exact he
      | row r args =>
       rw [Oper.upon_row] at h ⊢;exact Rows.mono h fun x z he=>⟨he.1.2,key x z ds he.1.1 he.1.2 he.2⟩
      | _=>exact h
    ·right;refine ⟨?_,h.2⟩;have G:=h.1;unfold Oper.asks at G ⊢;rw [jB (ds':=ds) M D] at G;exact G
   ·rw [if_neg R] at h ⊢;exact key undef w ds hw (s.sub Bw) h
structure nf (P:Program) (ops:Array Oper) (Q:Exit→Act→World→Prop) (Xb:List Mon) (R:List Nat) (fr:List Value) (ds:List Deferred) (w:World):Prop where
 out:Ta Xb w→∀ a,Il ops R a→Yg P ops Q Xb a (F fr ds) w
theorem Yd {R:List Nat}(h:nf P ops Q [] R fr ds w):yz P ops Q R fr ds w:=⟨fun a b=>Yg.plain a (h.out trivial a b)⟩
theorem Td {Xb:List Mon}(h:Q .normal (F fr ds) w):nf P ops Q Xb [] fr ds w:=⟨fun _ b a=>by
 cases a with
 | z=>exact h
 | s h _=>exact absurd (Bs h) (by simp)⟩
def Jl (ops:Array Oper) (S R:List Nat) (i:Nat):Bool :=
 match ops[i]? with
 | some o=>match o.dst with
  | some d=>vr o.op && R.all fun j=>S.contains j || (match ops[j]? with
    | some p=>vr p.op && !(reads ops p).contains d && p.dst != some d && (match p.dst with | some e=>!(reads ops o).contains e | none=>true)
    | none=>true)
  | _=>false
 | none=>false
theorem Gu {Xb:List Mon}{R lg:List Nat}{i:Nat}(S:List Nat) (N:World→Prop){wt:Bool}{dst:Tmp}{op:Op}{ty:TypeId}{pos:String}{after:Array Edge}{l:Option (Nat×Bool)}{v:Value}(B:fl Q) (m:(decide R.Nodup && enabled ops R i && waits ops R S i && Jl ops S R i && S.contains i)=true) (C:R.erase i=lg) (n:ops[i]?=some ⟨some dst,op,ty,pos,after,l⟩)
  (D:Region.wanted ⟨some dst,op,ty,pos,after,l⟩ (yielded ops (F fr ds).tmps)=wt) (E:wt=false→v=undef) (o:N w)
  (G:wt=true→∀ ds w',N w'→(execOp (F fr ds).eval ⟨some dst,op,ty,pos,after,l⟩).run P w'=.ok (.value v) w') (f:Xc fr dst v db) (h:nf P ops Q ((S,N)::Xb) lg db ds w):nf P ops Q Xb R fr ds w:=⟨fun q M r=>by
 simp only [Bool.and_eq_true,decide_eq_true_eq] at m;obtain ⟨⟨⟨⟨s,t⟩,u⟩,g⟩,-⟩:=m;obtain ⟨x,y,rfl,H,z⟩:=r.split s (Bs t) t;have A:=Il.later (S:=S) r s (fun j d=>by
  unfold waits at u;have:=List.all_eq_true.1 u j d;simp only [Bool.or_eq_true,beq_iff_eq,List.any_eq_true,Bool.and_eq_true,List.contains_iff_mem] at this;rcases this with h | ⟨k,Qb,K,L⟩
  ·exact .inl h
  ·exact .inr ⟨k,Qb,K,L⟩) x y rfl (fun hm=>(z i hm).2.1 rfl)
 unfold Jl at g;simp only [n,Bool.and_eq_true,List.all_eq_true,Bool.or_eq_true,List.contains_iff_mem] at g;unfold Xc at f;subst f;subst C;refine ez B n rfl E (N:=N) (S:=S) (v:=v) x y fr ds w Xb (fun j d=>⟨A j d,?_⟩) o q g.1 D G (h.out ⟨o,q⟩ _ H);obtain ⟨a,b,c⟩:=z j d;have:=g.2 j a;rcases this with h | h
 ·exact absurd h (A j d)
 ·cases f:ops[j]? with
  | none=>trivial
  | some p =>
   rw [f] at h;simp only [Bool.and_eq_true,Bool.not_eq_true',bne_iff_ne,ne_eq] at h;obtain ⟨⟨⟨q1,q2⟩,q3⟩,q4⟩:=h;refine ⟨q1,q2,q3,fun e he=>?_⟩;rw [he] at q4;simpa using q4⟩
theorem ZH {Xb:List Mon}{R lg:List Nat}{i:Nat}(S:List Nat){dst:Tmp}{op:Op}{ty:TypeId}{pos:String}{after:Array Edge}{v:Value}(a:fl Q) (b:(decide R.Nodup && enabled ops R i && waits ops R S i && Jl ops S R i && S.contains i)=true) (c:R.erase i=lg) (d:ops[i]?=some ⟨some dst,op,ty,pos,after,none⟩)
  (e:Bn P ⟨some dst,op,ty,pos,after,none⟩ fr w v) (f:Xc fr dst v db) (h:nf P ops Q ((S,fun w'=>Bn P ⟨some dst,op,ty,pos,after,none⟩ fr w' v)::Xb) lg db ds w):nf P ops Q Xb R fr ds w :=
 Gu S _ (wt:=true) a b c d (Hb rfl) (fun h=>by cases h) e (fun _ ds w' hw=>hw.out ds) f h
theorem UG {Xb:List Mon}{R lg:List Nat}{i j d:Nat}{b:Bool}(S:List Nat){dst:Tmp}{op:Op}{ty:TypeId}{pos:String}{after:Array Edge}{v:Value}(a:fl Q) (c:(decide R.Nodup && enabled ops R i && waits ops R S i && Jl ops S R i && S.contains i)=true) (e:R.erase i=lg) (f:ops[i]?=some ⟨some dst,op,ty,pos,after,some (j,b)⟩) (g:(ops[j]?).bind (·.dst)=some d) (za:Pc fr d (.bool b))
  (k:Bn P ⟨some dst,op,ty,pos,after,some (j,b)⟩ fr w v) (l:Xc fr dst v db) (h:nf P ops Q ((S,fun w'=>Bn P ⟨some dst,op,ty,pos,after,some (j,b)⟩ fr w' v)::Xb) lg db ds w):nf P ops Q Xb R fr ds w :=
 Gu S _ (wt:=true) a c e f (vw rfl g za) (fun h=>by cases h) k (fun _ ds w' hw=>hw.out ds) l h
theorem Yg.add {m:Mon}(c:∀ w,m.2 w):∀ (b:List Nat){Xb:List Mon}{a:Act}{w:World},Yg P ops Q Xb b a w→Yg P ops Q (m::Xb) b a w
 | [],_,_,_,h=>h
 | i::b,Xb,a,w,h=>by
  have d:Nh i (m::Xb)=m::Nh i Xb∨Nh i (m::Xb)=Nh i Xb:=by
   unfold Nh;rw [List.filter_cons];split
   ·exact .inl rfl
   ·exact .inr rfl
  have key:∀ {a w},Yg P ops Q (Nh i Xb) b a w→Yg P ops Q (Nh i (m::Xb)) b a w:=fun h=>by
   rcases d with e | e<;>rw [e]
   ·exact Yg.add c b h
   ·exact h
  have g:∀ {w},Ta (Nh i Xb) w→Ta (Nh i (m::Xb)) w:=fun h=>by
   rcases d with e | e<;>rw [e]
   ·exact ⟨c _,h⟩
   ·exact h
  simp only [Yg] at h ⊢;cases f:ops[i]? with
  | none=>rw [f] at h; exact key h
  | some o =>
   rw [f] at h;simp only at h ⊢;split
   ·rename_i hw;rw [if_pos hw] at h;rcases h with h | h
    ·exact .inl (Hy h fun a w ⟨j,k⟩=>⟨g j,key k⟩)
    ·exact .inr h
   ·rename_i hw;rw [if_neg hw] at h;exact key h
theorem Iy {Xb:List Mon}{m:Mon}{R:List Nat}(b:∀ w,m.2 w) (h:nf P ops Q Xb R fr ds w):nf P ops Q (m::Xb) R fr ds w:=⟨fun c a d=>Yg.add b a (h.out c.2 a d)⟩
theorem aI {Xb:List Mon}{R lg:List Nat}{i:Nat}(S:List Nat){dst:Tmp}{op:Op}{ty:TypeId}{pos:String}{after:Array Edge}{v:Value}(a:fl Q) (b:(decide R.Nodup && enabled ops R i && waits ops R S i && Jl ops S R i && S.contains i)=true) (c:R.erase i=lg) (d:ops[i]?=some ⟨some dst,op,ty,pos,after,none⟩)
  (e:hg P ⟨some dst,op,ty,pos,after,none⟩ fr v) (f:Xc fr dst v db) (h:nf P ops Q Xb lg db ds w):nf P ops Q Xb R fr ds w :=
 Gu S (fun _=>True) (wt:=true) a b c d (Hb rfl) (fun h=>by cases h) trivial (fun _ ds w' _=>e.out ds w') f (Iy (fun _=>trivial) h)
theorem VG {Xb:List Mon}{R lg:List Nat}{i j d:Nat}{b:Bool}(S:List Nat){dst:Tmp}{op:Op}{ty:TypeId}{pos:String}{after:Array Edge}{v:Value}(a:fl Q) (c:(decide R.Nodup && enabled ops R i && waits ops R S i && Jl ops S R i && S.contains i)=true) (e:R.erase i=lg) (f:ops[i]?=some ⟨some dst,op,ty,pos,after,some (j,b)⟩) (g:(ops[j]?).bind (·.dst)=some d) (za:Pc fr d (.bool b))
  (k:hg P ⟨some dst,op,ty,pos,after,some (j,b)⟩ fr v) (l:Xc fr dst v db) (h:nf P ops Q Xb lg db ds w):nf P ops Q Xb R fr ds w :=
 Gu S (fun _=>True) (wt:=true) a c e f (vw rfl g za) (fun h=>by cases h) trivial (fun _ ds w' _=>k.out ds w') l (Iy (fun _=>trivial) h)
theorem WG {Xb:List Mon}{R lg:List Nat}{i j d:Nat}{b Te:Bool}(S:List Nat){dst:Tmp}{op:Op}{ty:TypeId}{pos:String}{after:Array Edge}(a:fl Q) (c:(decide R.Nodup && enabled ops R i && waits ops R S i && Jl ops S R i && S.contains i)=true) (e:R.erase i=lg) (f:ops[i]?=some ⟨some dst,op,ty,pos,after,some (j,b)⟩) (g:(ops[j]?).bind (·.dst)=some d) (za:Pc fr d (.bool Te)) (k:(Te == b)=false)
  (l:Xc fr dst undef db) (h:nf P ops Q Xb lg db ds w):nf P ops Q Xb R fr ds w :=
 Gu S (fun _=>True) (wt:=false) a c e f ((nB rfl g za).trans k) (fun _=>rfl) trivial (fun h=>by cases h) l (Iy (fun _=>trivial) h)
structure vx (P:Program) (ops:Array Oper) (Q:Exit→Act→World→Prop) (Xb:List Mon) (R:List Nat) (fr:List Value) (ds:List Deferred) (w:World):Prop where
 m:Ta Xb w
 s:nf P ops Q Xb R fr ds w
theorem Ta.s {m:Mon}{l:List Mon}(h:m.2 w) (k:Ta l w):Ta (m::l) w:=⟨h,k⟩
theorem Ta.z:Ta [] w:=trivial
theorem pC {Xb:List Mon}{R:List Nat}(c:R≠[]) (h:∀ i ∈ Wy ops R,∃ o,ops[i]?=some o∧Region.wanted o (yielded ops (F fr ds).tmps)=true∧lf P o fr ds w (vx P ops Q (Nh i Xb) (R.erase i)) Q):nf P ops Q Xb R fr ds w:=⟨fun k d e=>by
 cases e with
 | z=>exact absurd rfl c
 | @s _ d i b f =>
  obtain ⟨o,g,hw,j⟩:=h i (List.mem_filter.2 ⟨Bs b,b⟩);simp only [Yg,g];rw [if_pos hw];exact .inl (j.out _ fun db ds' w' a=>⟨a.m,a.s.out a.m _ f⟩)⟩
theorem Mb {Xb Ns':List Mon}{R:List Nat}{i:Nat}{lg:List Nat}{o:Oper}(b:Wy ops R=[i]) (c:R.erase i=lg) (Ba:Nh i Xb=Ns') (d:ops[i]?=some o) (hw:Region.wanted o (yielded ops (F fr ds).tmps)=true)
  (h:lf P o fr ds w (vx P ops Q Ns' lg) Q):nf P ops Q Xb R fr ds w :=
 pC (by intro e;subst e;cases b) fun k a=>by
  rw [b] at a;simp at a;subst a;exact ⟨_,d,hw,by rw [c,Ba];exact h⟩
theorem lD {Xb d f:List Mon}{R:List Nat}{i j:Nat}{g h:List Nat}{a b:Oper}(l:Wy ops R=[i,j]) (m:R.erase i=g) (n:R.erase j=h) (o:Nh i Xb=d) (p:Nh j Xb=f) (q:ops[i]?=some a) (r:ops[j]?=some b) (s:Region.wanted a (yielded ops (F fr ds).tmps)=true) (t:Region.wanted b (yielded ops (F fr ds).tmps)=true)
  (u:lf P a fr ds w (vx P ops Q d g) Q) (v:lf P b fr ds w (vx P ops Q f h) Q):nf P ops Q Xb R fr ds w :=
 pC (by intro e;subst e;cases l) fun k c=>by
  rw [l] at c;simp at c;rcases c with rfl | rfl
  ·exact ⟨_,q,s,by rw [m,o];exact u⟩
  ·exact ⟨_,r,t,by rw [n,p];exact v⟩
theorem mD {Xb:List Mon}{R:List Nat}{Dh Eh:List Value}{d:Nat}{b:Bool}(za:Pc fr d (.bool b)) (a:Xc fr d (.bool true) Dh) (c:Xc fr d (.bool false) Eh)
  (e:b=true→nf P ops Q Xb R Dh ds w) (f:¬ b=true→nf P ops Q Xb R Eh ds w):nf P ops Q Xb R fr ds w:=by
 cases b with
 | true=>have:=e rfl; rw [Xc.same za a] at this; exact this
 | false=>have:=f (by simp); rw [Xc.same za c] at this; exact this
theorem GI {Xb:List Mon}{R:List Nat}{Dh Eh:List Value}{d:Nat}{p:Prop}[Decidable p] (za:Pc fr d (.bool (decide p))) (a:Xc fr d (.bool true) Dh) (b:Xc fr d (.bool false) Eh)
  (c:p→nf P ops Q Xb R Dh ds w) (e:¬ p→nf P ops Q Xb R Eh ds w):nf P ops Q Xb R fr ds w :=
 mD za a b (fun h=>c (of_decide_eq_true h)) (fun h=>e fun f=>h (decide_eq_true f))
end
end Go.pc
namespace Go.nd
open Go.pc Go.RowKit
section
variable {P:Program}{Q:Exit→Act→World→Prop}{K:List Value→List Deferred→World→Prop}{fr db:List Value}{ds:List Deferred}{w:World}
variable {dst:Option Tmp}{ty:TypeId}{pos:String}{after:Array Edge}{g:Option (Nat×Bool)}
variable {J:World}{rs ld:List yc}{μ xa:M}
variable {T:TypeId}{d:TypeDesc}{ag:Bool}{ae:List Value}{n m:Nat}
theorem qC {e:TypeId}{S Ud:Nat→Prop}{A:World→Prop}(c:P.underlying T=some (.slice e)) (a:Dd P e ag ae n m) (d:Sep S Ud J w rs A)
  (h:∀ b w',w.heap.size≤b→Sep S Ud J w' (.ba b e []::rs) A→yh fr dst (.slice (some ⟨b,0,none⟩) 0 0) fun db=>K db ds w'):lf P (Oper.mk dst (.buildSlice T 0 ⟨[]⟩) ty pos after g) fr ds w K Q:=by
 obtain ⟨db,Ba⟩:=Ji fr dst (.slice (some ⟨w.heap.size,0,none⟩) 0 0);refine mi (v:=.slice (some ⟨w.heap.size,0,none⟩) 0 0) (w':=w.alloc (.cells ⟨[]⟩ e)) ?_ Ba (h _ _ (Nat.le_refl _) (d.alloc rfl (heap_alloc_new w _)) db Ba);have f:=a.sizeOf (w:=w);obtain ⟨z,i,j⟩:=a.zero (w:=w);simp [execOp,Instr.buildSlice,Sem.run_bind,run_underlying c,Result.andThen_ok,f,newRow,Instr.fill];have bb:Array.range 0=#[]:=Array.eq_empty_of_size_eq_zero (by simp);rw [bb,Array.map_empty]
theorem uD {t ty:TypeId}{sz bytes:Nat}(b:P.underlying t=some (.slice T)) (e:Dd P T ag ae sz bytes){v:Value}{xs:List Value}(f:Row w v T sz n xs){a:Option Addr}{c:Nat} :
  (Builtin.append_ #[t,t] ty #[v,.slice a 0 c]).run P w=.ok v w:=by
 have d:=e.sizeOf (w:=w);rcases f.2 with ⟨rfl,rfl⟩ | ⟨g,o,cap,cur,rfl,i,h,j,k,l⟩
 ·cases a<;>simp [Builtin.append_,run_underlying b,d,Builtin.lenOf,Builtin.firstCells,loadCells,loadCellsFrom]
 ·cases a<;>simp [Builtin.append_,run_underlying b,d,Builtin.lenOf,Builtin.firstCells,h,storeCells,loadCells,loadCellsFrom]
theorem Jw {α:Type}[fb α]{t:TypeId}{s x:Operand}{v:Value}{bytes k c:Nat}{a:Option Addr}{cells news:List Value}{l ys ab:List α}(j:P.underlying t=some (.slice T)) (m:Dd P T ag ae (fb.sz α) bytes) (u:ae.length=fb.sz α)
  (n:cc fr s v) (p:cc fr x (.slice a ys.length c)) (f:ra μ J w rs) (za:Pc rs k (.row v T (fb.sz α) l.length cells)) (y:ys≠[]→∃ b o,a=some ⟨b,o,none⟩∧xd μ b o news) (d:ua μ news ys) (z:app l ys=some ab) (A:bytes≤4096)
  (h:∀ i w' ld,Xc rs k (.row i T (fb.sz α) ab.length (cells++news)) ld→ra μ J w' ld→yh fr dst i fun db=>K db ds w') :
  lf P (Oper.mk dst (.call { callee:=.builtin .append,args:=#[s,x],argTypes:=#[t,t] }) ty pos after g) fr ds w K Q:=by
 obtain ⟨q,B⟩:=xy z;by_cases r:ys=[]
 ·subst r;obtain rfl:news=[]:=d;have C:Row w v T (fb.sz α) l.length cells:=f.get za;obtain ⟨db,Ba⟩:=Ji fr dst v;have D:=h v w rs (by
   have:ab.length=l.length:=by simpa using q
   rw [this,List.append_nil];unfold Xc;obtain ⟨E,e⟩:=List.getElem?_eq_some_iff.1 (show rs[k]?=_ from za);rw [← e];exact List.set_getElem_self E) f
  refine mi (v:=v) (w':=w) ?_ Ba (D db Ba);have ma:=n ds;have F:=p ds;have d:=uD (P:=P) (ty:=ty) (a:=a) (c:=c) j m C;simp [execOp,resolve,invoke,builtin,ma,F,d]
 ·obtain ⟨b,o,rfl,G⟩:=y r;exact my j m (by simp [u,fb.pos]) n p f za (G _ f.a) d.len d.Ui ⟨B,A⟩ fun i w' ld H=>h i w' ld (by rw [q];exact H)
end
end Go.nd
