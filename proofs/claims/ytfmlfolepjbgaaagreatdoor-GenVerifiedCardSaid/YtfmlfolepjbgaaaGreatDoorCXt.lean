/- Texts of Xt. -/
import Derived.Test.YtfmlfolepjbgaaaGreatDoorCWk
import Derived.LoopN
import Derived.KernelRfl
set_option linter.unusedSimpArgs false
set_option linter.unusedVariables false
set_option linter.unusedSectionVars false
namespace Go.sd
open Go.oc Go.RowKit
abbrev M:=World→Prop
def ea (μ la:M):Prop:=∀ w,la w→μ w
theorem ea.r {μ:M}:ea μ μ:=fun _ h=>h
theorem ea.t {a b c:M}(h:ea a b) (k:ea b c):ea a c:=fun w x=>h w (k w x)
abbrev ka (μ:M) (J w:World) (rs:List dc):Prop:=Sep (fun _=>False) (fun _=>True) J w rs μ
def Ec (μ:M) (b o:Nat) (cs:List Value):Prop:=∀ w,μ w→tj w b o cs
theorem Ec.up {μ la:M}{b o:Nat}{cs:List Value}(h:Ec μ b o cs) (l:ea μ la):Ec la b o cs:=fun w k=>h w (l w k)
class Sa (α:Type) where
 sz:Nat
 pos:0<sz
 cs:M→List Value→α→Prop
 vg:∀ {μ:M}{l:List Value}{x:α},cs μ l x→l.length=sz
 up:∀ {μ la:M}{l:List Value}{x:α},ea μ la→cs μ l x→cs la l x
 ei:∀ {μ:M}{l:List Value}{x:α},cs μ l x→l.all Ae=true
structure pd {α:Type}(sz:Nat) (R:List Value→α→Prop) (μ:M) (a:Option Addr) (c:Nat) (xs:List α):Prop where
 le:xs.length≤c
 cap:c≤maxLen
 el:xs=[]∨∃ b o,a=some ⟨b,o,none⟩∧∃ g:Nat→List Value,∀ i x,xs[i]?=some x→Ec μ b (o+i*sz) (g i)∧R (g i) x
abbrev Ra {α:Type}[Sa α] (μ:M) (a:Option Addr) (c:Nat) (xs:List α):Prop:=pd (Sa.sz α) (Sa.cs μ) μ a c xs
theorem pd.imp {α:Type}{sz:Nat}{R R':List Value→α→Prop}{μ la:M}{a:Option Addr}{c:Nat}{xs:List α}(h:pd sz R μ a c xs) (l:ea μ la) (f:∀ (i:Nat) (cs:List Value) (x:α),xs[i]?=some x→R cs x→R' cs x):pd sz R' la a c xs where
 le:=h.le
 cap:=h.cap
 el:=by
  rcases h.el with h | ⟨b,o,j,g,e⟩
  ·exact .inl h
  ·exact .inr ⟨b,o,j,g,fun i x d=>⟨(e i x d).1.up l,f i _ x d (e i x d).2⟩⟩
theorem Ra.up {α:Type}[Sa α]{μ la:M}{a:Option Addr}{c:Nat}{xs:List α}(h:Ra μ a c xs) (l:ea μ la):Ra la a c xs:=pd.imp h l fun _ _ _ _=>Sa.up l
theorem Ra.nil {α:Type}[Sa α]{μ:M}{a:Option Addr}:Ra (α:=α) μ a 0 []:=⟨by simp,by simp,.inl rfl⟩
theorem Ra.len {α:Type}{sz:Nat}{R:List Value→α→Prop}{μ:M}{a:Option Addr}{c:Nat}{xs:List α}(h:pd sz R μ a c xs):xs.length≤9223372036854775807:=Nat.le_trans h.le h.cap
instance:Sa Int where
 sz:=1
 pos:=by decide
 cs _ l x:=l=[.int .i64 x]
 vg h:=by rw [h];rfl
 up _ h:=h
 ei h:=by rw [h];rfl
instance:Sa Bool where
 sz:=1
 pos:=by decide
 cs _ l x:=l=[.bool x]
 vg h:=by rw [h];rfl
 up _ h:=h
 ei h:=by rw [h];rfl
instance:Sa (List UInt8) where
 sz:=1
 pos:=by decide
 cs _ l x:=l=[S x]
 vg h:=by rw [h];rfl
 up _ h:=h
 ei h:=by rw [h];rfl
def i64 (n:Int):Option Int:=if -9223372036854775808≤n∧n≤9223372036854775807 then some n else none
def at_ {α:Type}(l:List α) (i:Int):Option α:=if 0≤i then l[i.toNat]? else none
def cut {α:Type}(l:List α) (i j:Int):Option (List α):=if 0≤i∧i≤j∧j≤l.length then some ((l.take j.toNat).drop i.toNat) else none
def cat (a b:List UInt8):Option (List UInt8):=if a.length+b.length≤9223372036854775807 then some (a++b) else none
def app {α:Type}(l:List α) (xs:List α):Option (List α):=if l.length+xs.length≤4294967296 then some (l++xs) else none
theorem ga {α β:Type}{o:Option α}{f:α→Option β}{r:β}(h:Option.bind o f=some r):∃ x,o=some x∧f x=some r:=Option.bind_eq_some_iff.1 h
theorem dj {α:Type}{c:Prop}[Decidable c]{x y:α}{r:α}(a:c) (h:(if c then x else y)=r):x=r:=by rwa [if_pos a] at h
theorem kg {α:Type}{c:Prop}[Decidable c]{x y:α}{r:α}(a:¬ c) (h:(if c then x else y)=r):y=r:=by rwa [if_neg a] at h
theorem RH {n x:Int}(h:i64 n=some x):x=n∧-9223372036854775808≤n∧n≤9223372036854775807:=by
 unfold i64 at h;split at h
 ·rename_i a;exact ⟨(Option.some.inj h).symm,a⟩
 ·cases h
theorem xB {n x:Int}(h:i64 n=some x):IntKind.i64.wrap n=x:=by
 obtain ⟨rfl,a,b⟩:=RH h;exact wr (by omega)
theorem Ju {α:Type}{l:List α}{i:Int}{x:α}(h:at_ l i=some x):0≤i∧i<l.length∧l[i.toNat]?=some x:=by
 unfold at_ at h;split at h
 ·rename_i a;refine ⟨a,?_,h⟩;have:=(List.getElem?_eq_some_iff.1 h).1;omega
 ·cases h
theorem Ss {α:Type}{l ys:List α}{i j:Int}(h:cut l i j=some ys):(0≤i∧i≤j∧j≤l.length)∧ys=(l.take j.toNat).drop i.toNat:=by
 unfold cut at h;split at h
 ·rename_i a;exact ⟨a,(Option.some.inj h).symm⟩
 ·cases h
theorem SH {a b c:List UInt8}(h:cat a b=some c):c=a++b∧a.length+b.length≤9223372036854775807:=by
 unfold cat at h;split at h
 ·rename_i d;exact ⟨(Option.some.inj h).symm,d⟩
 ·cases h
theorem Mw {α:Type}{a b c:List α}(h:app a b=some c):c=a++b∧a.length+b.length≤4294967296:=by
 unfold app at h;split at h
 ·rename_i d;exact ⟨(Option.some.inj h).symm,d⟩
 ·cases h
structure lv (v:Value) (sz:Nat) (i:Int) (b o:Nat):Prop where
 out:∃ a n c,v=.slice (some ⟨b,a,none⟩) n c∧0≤i∧i<n∧a+i.toNat*sz=o
theorem pd.elem {α:Type}{sz:Nat}{R:List Value→α→Prop}{μ:M}{a:Option Addr}{c:Nat}{xs:List α}{i:Int}{x:α}(h:pd sz R μ a c xs) (g:at_ xs i=some x) :
  ∃ b o cs,lv (.slice a xs.length c) sz i b o∧Ec μ b o cs∧R cs x:=by
 obtain ⟨j,k,d⟩:=Ju g;rcases h.el with rfl | ⟨b,o,rfl,f,e⟩
 ·simp at d
 ·exact ⟨b,_,f i.toNat,⟨o,_,_,rfl,j,k,rfl⟩,(e _ _ d).1,(e _ _ d).2⟩
def ua {α:Type}[Sa α] (μ:M):List Value→List α→Prop
 | cells,[]=>cells=[]
 | cells,x::l=>∃ cs t,cells=cs++t∧Sa.cs μ cs x∧ua μ t l
theorem ua.len {α:Type}[Sa α]{μ:M}:∀ {l:List α}{cells:List Value},ua μ cells l→cells.length=l.length*Sa.sz α
 | [],cells,h=>by rw [ua] at h; simp [h]
 | x::l,cells,h=>by
  rw [ua] at h;obtain ⟨cs,t,rfl,a,b⟩:=h;simp [ua.len b,Sa.vg a,Nat.add_mul,Nat.add_comm]
theorem ua.up {α:Type}[Sa α]{μ la:M}(qa:ea μ la):∀ {l:List α}{cells:List Value},ua μ cells l→ua la cells l
 | [],cells,h=>by rw [ua] at h ⊢; exact h
 | x::l,cells,h=>by
  rw [ua] at h ⊢;obtain ⟨cs,t,a,b,c⟩:=h;exact ⟨cs,t,a,Sa.up qa b,ua.up qa c⟩
theorem ua.cat {α:Type}[Sa α]{μ:M}{Ha:List α}{a:List Value}(k:ua μ a Ha):∀ {l:List α}{cells:List Value},ua μ cells l→ua μ (cells++a) (l++Ha)
 | [],cells,h=>by rw [ua] at h; subst h; exact k
 | x::l,cells,h=>by
  rw [ua] at h;obtain ⟨cs,t,rfl,b,c⟩:=h;rw [List.cons_append,ua];exact ⟨cs,t++a,by simp,b,ua.cat k c⟩
theorem ua.nil {α:Type}[Sa α]{μ:M}:ua μ [] ([]:List α):=rfl
theorem ua.one {α:Type}[Sa α]{μ:M}{cs:List Value}{x:α}(h:Sa.cs μ cs x):ua μ cs [x]:=⟨cs,[],by simp,h,rfl⟩
theorem ua.cons {α:Type}[Sa α]{μ:M}{cs t:List Value}{x:α}{l:List α}(h:Sa.cs μ cs x) (k:ua μ t l):ua μ (cs++t) (x::l):=⟨cs,t,rfl,h,k⟩
theorem ua.ei {α:Type}[Sa α]{μ:M}:∀ {l:List α}{cells:List Value},ua μ cells l→cells.all Ae=true
 | [],cells,h=>by rw [ua] at h; simp [h]
 | x::l,cells,h=>by
  rw [ua] at h;obtain ⟨cs,t,rfl,a,b⟩:=h;rw [List.all_append,Sa.ei a,ua.ei b];rfl
theorem ua.get {α:Type}[Sa α]{μ:M}:∀ {l:List α}{cells:List Value}{i:Nat}{x:α},ua μ cells l→l[i]?=some x→Sa.cs μ ((cells.drop (i*Sa.sz α)).take (Sa.sz α)) x
 | [],cells,i,x,h,a=>by simp at a
 | y::l,cells,i,x,h,a=>by
  rw [ua] at h;obtain ⟨cs,t,rfl,b,c⟩:=h;cases i with
  | zero=>simp at a; subst a; simp [← Sa.vg b]; exact b
  | succ i =>
   simp at a;have:=ua.get c a;have e:(i+1)*Sa.sz α=cs.length+i*Sa.sz α:=by rw [Nat.add_mul,Sa.vg b];omega
   rw [e,← List.drop_drop];simpa using this
theorem Ra.cells {α:Type}[Sa α]{μ:M}{a:Option Addr}{c:Nat}:∀ {xs:List α},Ra μ a c xs→∃ cells,ua μ cells xs∧(xs≠[]→∃ b o,a=some ⟨b,o,none⟩∧Ec μ b o cells):=by
 intro xs h;rcases h.el with rfl | ⟨b,o,rfl,g,n⟩
 ·exact ⟨[],rfl,fun h=>absurd rfl h⟩
 ·have key:∀ (l:List α) (k:Nat),xs.drop k=l→∃ cells,ua μ cells l∧Ec μ b (o+k*Sa.sz α) cells:=by
   intro l
   induction l with
   | nil=>intro k _; exact ⟨[],rfl,fun w _ j v d=>by simp at d⟩
   | cons x l p =>
    intro k i;have q:xs[k]?=some x:=by
     have:=congrArg (fun l=>l[0]?) i;simpa using this
    obtain ⟨cells,e,f⟩:=p (k+1) (by rw [← List.tail_drop,i];rfl);obtain ⟨r,m⟩:=n k x q;refine ⟨g k++cells,ua.cons m e,fun w hw j v d=>?_⟩;rcases Nat.lt_or_ge j (g k).length with qa | qa
    ·rw [List.getElem?_append_left qa] at d;exact r w hw j v d
    ·rw [List.getElem?_append_right qa] at d;have:=f w hw _ v d;rw [Sa.vg m] at this qa;rw [show o+(k+1)*Sa.sz α+(j - Sa.sz α)=o+k*Sa.sz α+j by rw [Nat.add_mul];omega] at this;exact this
  obtain ⟨cells,e,f⟩:=key xs 0 rfl;exact ⟨cells,e,fun _=>⟨b,o,rfl,by simpa using f⟩⟩
section
variable {P:Program}{Q:Exit→Act→World→Prop}{K:List Value→List Deferred→World→Prop}{fr Fa:List Value}{ds:List Deferred}{w:World}
variable {dst:Option Tmp}{ty:TypeId}{pos:String}{after:Array Edge}{g:Option (Nat×Bool)}
variable {J:World}{rs Lc:List dc}{μ:M}
variable {T:TypeId}{d:TypeDesc}{ag:Bool}{Vd:List Value}{n m:Nat}
theorem tc {c:Code}(f:List Nat) (i:f.Nodup) (d:List mb→World→Prop) (j:∀ m w,d m w→opens m=f)
  (h:df P c (Exit.then (fun n w'=>∃ m Fa,n=F Fa ds∧Ee m fr Fa∧d m w') Q) fr ds w)
  (k:∀ m t w,d m w→Q .normal (F (Th t m fr) ds) w):df P c Q fr ds w:=⟨
 wp_mono h.out fun e a w' b=>by
  cases e with
  | normal =>
   obtain ⟨m,Fa,rfl,o,g⟩:=b;obtain ⟨qd,p⟩:=o.ex (by rw [j m w' g];exact i);have:=k m qd w' g;rw [← p] at this;exact this
  | exit id=>exact b
  | goto l=>exact b
  | ret=>exact b
  | panic q=>exact b
  | outgrown=>exact b⟩
theorem Bf {c:Code}(f:List Nat) (k:f.Nodup) (b:Nat→List mb→World→Prop) (h:∀ n m w,b n m w→opens m=f) (g:Nat) (m0:List mb) (l:Ee m0 fr fr) (i:b g m0 w)
  (round:∀ n m t w,b n m w→df P c (Exit.then (fun o w'=>∃ d e Fa,o=F Fa ds∧Ee e fr Fa∧b d e w'∧d<n) Q) (Th t m fr) ds w):df P (.loop c) Q fr ds w:=by
 refine iJ (α:={ p:Nat×List mb // opens p.2=f }) f k (fun p=>p.1.2) (fun p=>p.2) (fun p w=>b p.1.1 p.1.2 w) (fun p _=>p.1.1) ⟨(g,m0),h g m0 w i⟩ l i fun p t w q=>?_;refine (round p.1.1 p.1.2 t w q).mono (FF fun a w' ⟨d,e,Fa,r,s,j,u⟩=>⟨⟨(d,e),h d e w' j⟩,Fa,r,s,j,u⟩)
theorem Xj {c:Operand}{x y:Code}{b:Bool}(a:zb fr c (.bool b)) (d:b=true→df P x Q fr ds w) (e:¬ b=true→df P y Q fr ds w):df P (.cond c x y) Q fr ds w :=
 Fz a d fun h=>e (by rw [h];simp)
theorem nz {c:Operand}{x y:Code}{b:Bool}(a:zb fr c (.bool (!b))) (d:¬ b=true→df P x Q fr ds w) (e:b=true→df P y Q fr ds w):df P (.cond c x y) Q fr ds w :=
 Fz a (fun h=>d (by simpa using h)) fun h=>e (by simpa using h)
theorem TJ {ops:Array Oper}{l:List Oper}{th uh:List Value}{d:Nat}{b:Bool}(qa:hc fr d (.bool b)) (a:Hc fr d (.bool true) th) (c:Hc fr d (.bool false) uh)
  (e:b=true→Lf P ops Q l th ds w) (f:¬ b=true→Lf P ops Q l uh ds w):Lf P ops Q l fr ds w:=Gz qa a c e fun h=>f (by rw [h];simp)
theorem vJ {ops:Array Oper}{l:List Oper}{th uh:List Value}{d:Nat}{b:Bool}(qa:hc fr d (.bool (!b))) (a:Hc fr d (.bool true) th) (c:Hc fr d (.bool false) uh)
  (e:¬ b=true→Lf P ops Q l th ds w) (f:b=true→Lf P ops Q l uh ds w):Lf P ops Q l fr ds w:=Gz qa a c (fun h=>e (by simpa using h)) fun h=>f (by simpa using h)
inductive ej:List dc→Nat→List dc→Prop where
 | z {rs:List dc}:ej rs 0 rs
 | s {a r:dc} {rs Lc:List dc} {k:Nat} (h:ej rs k (r::Lc)):ej (a::rs) (k+1) (r::a::Lc)
theorem ej.perm {k:Nat}{rs Lc:List dc}(h:ej rs k Lc):rs.Perm Lc:=by
 induction h with
 | z=>exact .refl _
 | s _ a=>exact (a.cons _).trans (.swap _ _ _)
theorem _root_.Go.oc.Sep.ca {k:Nat}{S Jd:Nat→Prop}{A:World→Prop}(h:Sep S Jd J w rs A) (a:ej rs k Lc):Sep S Jd J w Lc A where
 keeps:=h.keeps
 all r c:=h.all r (a.perm.mem_iff.2 c)
 Zh:=(a.perm.filterMap _).nodup_iff.1 h.Zh
 new b d:=h.new b ((a.perm.filterMap _).mem_iff.2 d)
 Ki:=h.Ki.mono fun k _ hs=>⟨hs.1,fun hm=>hs.2 ((a.perm.filterMap dc.block).mem_iff.2 hm)⟩
theorem _root_.Go.oc.Sep.qx {r:dc}{B:World→Prop}(h:ka μ J w (r::rs)) (a:∀ w,r.holds w→B w):ka (fun w=>μ w∧B w) J w rs :=
 Sep.freeze h (d0 (α:=dc)) fa.z (fun _ _=>.inl trivial) a
theorem _root_.Go.oc.Sep.uk {α:Type}[Sa α]{v:Value}{cells:List Value}{l:List α}(h:ka μ J w (.row v T (Sa.sz α) n cells::rs)) (m:ua μ cells l) (e:l.length=n) :
  ∃ la a c,v=.slice a l.length c∧ea μ la∧Ra la a c l∧ka la J w rs:=by
 have p:Row w v T (Sa.sz α) n cells:=h.all _ (List.mem_cons_self ..);have f:=Sep.qx (B:=fun w=>Row w v T (Sa.sz α) n cells) h fun w hw=>hw;have hle:ea μ (fun w=>μ w∧Row w v T (Sa.sz α) n cells):=fun w hw=>hw.1;rcases p.2 with ⟨rfl,rfl⟩ | ⟨g,o,cap,cur,rfl,C,q,r,D,E⟩
 ·obtain rfl:=List.eq_nil_of_length_eq_zero e;exact ⟨_,none,0,rfl,hle,Ra.nil,f⟩
 ·subst e;refine ⟨_,some ⟨g,o,none⟩,cap,rfl,hle,⟨q,r,.inr ⟨g,o,rfl,fun i=>(cells.drop (i*Sa.sz α)).take (Sa.sz α),fun i x k=>⟨?_,?_⟩⟩⟩,f⟩
  ·intro F s j u d;obtain ⟨-,t⟩:=s;have y:0<l.length:=by have:=(List.getElem?_eq_some_iff.1 k).1;omega
   obtain ⟨b,G,c,Ab,z⟩:=t.Iu y;simp at Ab;obtain ⟨⟨rfl,rfl⟩,rfl⟩:=Ab;have A:j<Sa.sz α:=by
    have:=(List.getElem?_eq_some_iff.1 d).1;simp at this;omega
   rw [List.getElem?_take_of_lt A,List.getElem?_drop] at d;have:=z _ u d;rw [← Nat.add_assoc] at this;exact this
  ·exact Sa.up hle (m.get k)
theorem _root_.Go.oc.Sep.Qj {α:Type}[Sa α]{b:Nat}{cells:List Value}{l:List α}(h:ka μ J w (.ba b T cells::rs)) (c:ua μ cells l) (hlen:l.length≤maxLen) :
  ∃ la,ea μ la∧Ra la (some ⟨b,0,none⟩) l.length l∧ka la J w rs:=by
 have d:=Sep.qx (B:=fun w=>Dk w b T cells) h fun w hw=>hw;have hle:ea μ (fun w=>μ w∧Dk w b T cells):=fun w hw=>hw.1;refine ⟨_,hle,⟨Nat.le_refl _,hlen,.inr ⟨b,0,rfl,fun i=>(cells.drop (i*Sa.sz α)).take (Sa.sz α),fun i x e=>⟨?_,Sa.up hle (c.get e)⟩⟩⟩,d⟩;intro k f j u a;have g:j<Sa.sz α:=by
  have:=(List.getElem?_eq_some_iff.1 a).1;simp at this;omega
 rw [List.getElem?_take_of_lt g,List.getElem?_drop] at a;have:=f.2.cells _ u a;rw [Nat.zero_add] at this ⊢;exact this
theorem _root_.Go.oc.Sep.Jm {b:Nat}{cells:List Value}(h:ka μ J w (.ba b T cells::rs)):∃ la,ea μ la∧Ec la b 0 cells∧ka la J w rs :=
 ⟨_,fun _ hw=>hw.1,fun _ hw=>hw.2.cells,Sep.qx (B:=fun w=>Dk w b T cells) h fun _ hw=>hw⟩
theorem _root_.Go.oc.Sep.Ts {sz:Nat}{b k:Nat}{cells:List Value}{S Jd:Nat→Prop}{A:World→Prop}(h:Sep S Jd J w rs A) (qa:hc rs k (.ba b T cells)) (a:cells.length=n*sz) (hlen:n≤maxLen)
  (c:Hc rs k (.row (.slice (some ⟨b,0,none⟩) n n) T sz n cells) Lc):Sep S Jd J w Lc A:=by
 have d:Dk w b T cells:=h.get qa;refine h.put (b:=b) qa rfl rfl c ⟨a,.inr ⟨b,0,n,⟨cells⟩,rfl,d,Nat.le_refl _,hlen,by simp [a],by simp [← a]⟩⟩ (Xh.refl _)
theorem Uc {x y:Operand}{v:Value}{b o sz:Nat}{k:IntKind}{i:Int}{e:TypeId}(a:P.underlying T=some (.slice e)) (d:Wc P e ag Vd sz m) (f:zb fr x v) (h:zb fr y (.int k i)) (he:lv v sz i b o):Of P (Oper.mk dst (.indexAddr T x y) ty pos after g) fr ((.pointer (some ⟨b,o,none⟩))):=by
 obtain ⟨q,n,c,rfl,j,l,p⟩:=he.out;exact Yu a d f h ⟨j,l⟩ p
theorem Od {x y:Operand}{t qd:TypeId}{a b c:Int}(d:zb fr x (.int .i64 a)) (e:zb fr y (.int .i64 b)) (h:i64 (a+b)=some c):Of P (Oper.mk dst (.binOp .add t x y qd) ty pos after g) fr ((.int .i64 c)):=jJ d e (xB h)
theorem Vi {x y:Operand}{t qd:TypeId}{a b c:Int}(d:zb fr x (.int .i64 a)) (e:zb fr y (.int .i64 b)) (h:i64 (a - b)=some c):Of P (Oper.mk dst (.binOp .sub t x y qd) ty pos after g) fr ((.int .i64 c)):=kJ d e (xB h)
theorem TH {x y:Operand}{t:TypeId}{k:IntKind}{a:List UInt8}{i:Int}{c:UInt8}(b:P.underlying t=some .string) (d:zb fr x (S a)) (e:zb fr y (.int k i)) (h:at_ a i=some c):Of P (Oper.mk dst (.index t x y) ty pos after g) fr (.int .u8 c.toNat):=PH b d e (Ju h).1 (Ju h).2.2
theorem Nw {x y:Operand}{t:TypeId}{k:IntKind}{a:List UInt8}{i:Int}{c:UInt8}(b:P.underlying t=some .string) (d:zb fr x (S a)) (e:zb fr y (.int k i)) (h:at_ a i=some c) (f:Vf fr dst (.int .u8 c.toNat) Fa) (kk:K Fa ds w):De P (Oper.mk dst (.index t x y) ty pos after g) fr ds w K Q:=Ea (TH b d e h) f kk
theorem tC {x y:Operand}{t qd:TypeId}{a b c:List UInt8}(d:zb fr x (S a)) (e:zb fr y (S b)) (h:cat a b=some c):Of P (Oper.mk dst (.binOp .add t x y qd) ty pos after g) fr (S c):=by
 obtain ⟨rfl,qa⟩:=SH h;exact pJ d e qa
structure Zq (v:Value) (sz:Nat) (i j:Option Int) (b:Value):Prop where
 out:∃ a n c,v=.slice a n c∧0≤i.getD 0∧i.getD 0≤j.getD n∧j.getD n≤c∧b=.slice (if c=(i.getD 0).toNat then a else a.map (·.add ((i.getD 0).toNat*sz))) ((j.getD n).toNat - (i.getD 0).toNat) (c - (i.getD 0).toNat)
inductive ux (fr:List Value):Option Operand→Option Int→Prop where
 | n:ux fr none none
 | s {x:Operand} {i:Int} (h:zb fr x (.int .i64 i)):ux fr (some x) (some i)
theorem Kn {x:Operand}{Rg up:Option Operand}{v q:Value}{sz:Nat}{i j:Option Int}{e:TypeId}(f:P.underlying T=some (.slice e)) (k:Wc P e ag Vd sz m) (l:zb fr x v) (t:ux fr Rg i) (r:ux fr up j) (he:Zq v sz i j q):Of P (Oper.mk dst (.slice T x Rg up none) ty pos after g) fr q:=by
 obtain ⟨a,n,c,rfl,o,b,d,rfl⟩:=he.out;refine ⟨fun ds w=>?_⟩;cases t with
 | n =>
  cases r with
  | n =>
   simp at b d;simp [execOp,l ds,Instr.sliceAt,Instr.slice,run_underlying f,Instr.sliceBounds,k.sizeOf];try rfl
  | s h =>
   rename_i y i;simp at b d;have na:i≤(c:Int):=d;simp [execOp,l ds,h ds,Instr.sliceAt,Instr.slice,run_underlying f,Instr.sliceBounds,Instr.sliceBound,asIntOf,k.sizeOf,b,na];try rfl
 | s h =>
  rename_i y i;cases r with
  | n =>
   simp at o b d;simp [execOp,l ds,h ds,Instr.sliceAt,Instr.slice,run_underlying f,Instr.sliceBounds,Instr.sliceBound,asIntOf,k.sizeOf,o,b];try rfl
  | s u =>
   rename_i A p;simp at o b d;have na:0≤p:=by omega
   have z:(p.toNat:Int)=p:=by omega
   simp [execOp,l ds,h ds,u ds,Instr.sliceAt,Instr.slice,run_underlying f,Instr.sliceBounds,Instr.sliceBound,asIntOf,k.sizeOf,o,b,d,na,z];try rfl
theorem Ra.mv {α:Type}[Sa α]{μ:M}{a:Option Addr}{c:Nat}{xs ys:List α}{i j:Option Int}(h:Ra μ a c xs) (g:cut xs (i.getD 0) (j.getD xs.length)=some ys) :
  ∃ e Db,Zq (.slice a xs.length c) (Sa.sz α) i j (.slice e ys.length Db)∧Ra μ e Db ys:=by
 obtain ⟨⟨l,m,r⟩,rfl⟩:=Ss g;have hle:=h.le;refine ⟨(if c=(i.getD 0).toNat then a else a.map (·.add ((i.getD 0).toNat*Sa.sz α))),c - (i.getD 0).toNat,⟨a,xs.length,c,rfl,l,m,by omega,?_⟩,?_⟩
 ·rw [show ((xs.take (j.getD ↑xs.length).toNat).drop (i.getD 0).toNat).length=(j.getD ↑xs.length).toNat - (i.getD 0).toNat by simp;omega]
 ·refine ⟨by simp;omega,by have:=h.cap;omega,?_⟩;rcases h.el with rfl | ⟨b,o,rfl,f,n⟩
  ·left;simp
  ·by_cases p:c=(i.getD 0).toNat
   ·left;rw [List.drop_eq_nil_iff];simp;omega
   ·right;rw [if_neg p];refine ⟨b,o+(i.getD 0).toNat*Sa.sz α,by simp [Lj],fun k=>f ((i.getD 0).toNat+k),fun k x d=>?_⟩;rw [List.getElem?_drop] at d;have q:(i.getD 0).toNat+k<(j.getD ↑xs.length).toNat:=by
     have:=(List.getElem?_eq_some_iff.1 d).1;simp at this;omega
    rw [List.getElem?_take_of_lt q] at d;have:=n _ x d;rw [Nat.add_mul,← Nat.add_assoc] at this;exact this
end
end Go.sd
namespace Go.sd
open Go.oc Go.RowKit
section
variable {P:Program}{Q:Exit→Act→World→Prop}{K:List Value→List Deferred→World→Prop}{fr Fa:List Value}{ds:List Deferred}{w:World}
variable {dst:Option Tmp}{ty:TypeId}{pos:String}{after:Array Edge}{g:Option (Nat×Bool)}
variable {J:World}{rs Lc:List dc}{μ:M}
variable {T:TypeId}{d:TypeDesc}{ag:Bool}{Vd:List Value}{n m:Nat}
theorem yB {x Rg:Operand}{t:TypeId}{a b:List UInt8}{i:Int}(c:P.underlying t=some .string) (d:zb fr x (S a)) (e:zb fr Rg (.int .i64 i)) (h:cut a i a.length=some b):Of P (Oper.mk dst (.slice t x (some Rg) none none) ty pos after g) fr (S b):=by
 obtain ⟨⟨f,j,k⟩,rfl⟩:=Ss h;have:=ZG (dst:=dst) (ty:=ty) (pos:=pos) (after:=after) (g:=g) c d e ⟨f,j⟩;simpa using this
theorem oy {x up:Operand}{t:TypeId}{a b:List UInt8}{j:Int}(c:P.underlying t=some .string) (d:zb fr x (S a)) (e:zb fr up (.int .i64 j)) (h:cut a 0 j=some b):Of P (Oper.mk dst (.slice t x none (some up) none) ty pos after g) fr (S b):=by
 obtain ⟨⟨k,f,i⟩,rfl⟩:=Ss h;have:=aH (dst:=dst) (ty:=ty) (pos:=pos) (after:=after) (g:=g) c d e ⟨f,i⟩;simpa using this
theorem _root_.Go.oc.Row.Ae {v:Value}{sz n:Nat}{xs:List Value}(h:Row w v T sz n xs):Ae v=true:=by
 rcases h.2 with ⟨rfl,_⟩ | ⟨g,o,cap,cur,rfl,_⟩<;>rfl
theorem Np {f:Nat}{xs ys:List Operand}{vs us:List Value}(hs:Vm fr xs vs) (hu:Vm fr ys us):Of P (Oper.mk dst (.makeFunc (.func f) ⟨xs⟩ ⟨ys⟩) ty pos after g) fr (.func (.func f) ⟨vs⟩ ⟨us⟩):=by
 refine ⟨fun ds w=>?_⟩;have a:=hs ds;have b:=hu ds;simp [execOp,Instr.makeFunc,a,b]
theorem ua.app {α:Type}[Sa α]{cells news:List Value}{l xs Ha:List α}(h:ua μ cells l) (k:ua μ news xs) (g:app l xs=some Ha):ua μ (cells++news) Ha:=by
 obtain ⟨rfl,-⟩:=Mw g;exact ua.cat k h
theorem Iy {α:Type}{l xs Ha:List α}(g:app l xs=some Ha):Ha.length=l.length+xs.length∧l.length+xs.length≤4294967296:=by
 obtain ⟨rfl,h⟩:=Mw g;exact ⟨by simp,h⟩
theorem vj {α:Type}[Sa α]{t:TypeId}{s x:Operand}{v:Value}{bytes k b d c:Nat}{cells news:List Value}{l ys Ha:List α}(f:P.underlying t=some (.slice T)) (i:Wc P T ag Vd (Sa.sz α) bytes) (j:Vd.length=Sa.sz α)
  (hs:zb fr s v) (m:zb fr x (.slice (some ⟨b,0,none⟩) d c)) (n:ka μ J w rs) (qa:hc rs k (.row v T (Sa.sz α) l.length cells)) (o:tj w b 0 news) (e:ua μ news ys) (hm:ys.length=d) (p:app l ys=some Ha) (q:bytes≤4096)
  (h:∀ a w' Lc,Hc rs k (.row a T (Sa.sz α) Ha.length (cells++news)) Lc→ka μ J w' Lc→Mg fr dst a fun Fa=>K Fa ds w') :
  De P (Oper.mk dst (.call { callee:=.builtin .append,args:=#[s,x],argTypes:=#[t,t] }) ty pos after g) fr ds w K Q:=by
 obtain ⟨r,u⟩:=Iy p;subst hm;refine my f i (by simp [j,Sa.pos]) hs m n qa o e.len e.ei ⟨u,q⟩ fun a w' Lc y=>h a w' Lc (by rw [r];exact y)
theorem _root_.Go.oc.tj.Ig {b o:Nat}{cs:List Value}(h:tj w b o cs) (i n:Nat):tj w b (o+i) ((cs.drop i).take n):=by
 intro j v a;have c:j<n:=by
  have:=(List.getElem?_eq_some_iff.1 a).1;simp at this;omega
 rw [List.getElem?_take_of_lt c,List.getElem?_drop] at a;have:=h _ v a;rw [← Nat.add_assoc] at this;exact this
theorem Ec.Ig {b o:Nat}{cs:List Value}(h:Ec μ b o cs) (i n:Nat):Ec μ b (o+i) ((cs.drop i).take n):=fun w hw=>(h w hw).Ig i n
theorem Yb {x y:Operand}{b k:Nat}{cs vs:List Value}(d:Wc P T ag Vd n m) (e:zb fr x (.pointer (some ⟨b,0,none⟩))) (f:zb fr y (.agg ⟨vs⟩)) (i:vs.length=n) (j:vs.all Ae=true)
  {S Jd:Nat→Prop}{A:World→Prop}(l:Sep S Jd J w rs A) {a:TypeId}(qa:hc rs k (.ba b a cs)) (he:cs.length=n) (o:Hc rs k (.ba b a vs) Lc)
  (ya:Vf fr dst undef Fa) (h:∀ w',Sep S Jd J w' Lc A→K Fa ds w'):De P (Oper.mk dst (.store T x y) ty pos after g) fr ds w K Q:=by
 have key:∀ (vs cs pre:List Value),vs.length=cs.length→Jh (pre++cs) pre.length vs (pre++vs):=by
  intro vs
  induction vs with
  | nil=>intro cs pre h; cases cs with
   | nil=>exact .z
   | cons c cs=>simp at h
  | cons v vs p =>
   intro cs pre h;cases cs with
   | nil=>simp at h
   | cons c cs =>
    refine .s (cs1:=pre++v::cs) (by unfold Hc;simp) (by simp) ?_;have:=p cs (pre++[v]) (by simpa using h);simpa using this
 exact Hy d e f rfl i j l qa (by simpa using key vs cs [] (by omega)) (by simp) o ya h
theorem xu {pl:Array (Nat×Nat)}{xs:List (Nat×Operand)}{out:List Value}(a:Wc P T ag Vd n m) (b:Nh P T pl) (c:Bb fr pl Vd xs out):Of P (Oper.mk dst (.build T ⟨xs⟩) ty pos after g) fr (.agg ⟨out⟩):=by
 refine ⟨fun ds w=>?_⟩;obtain ⟨z,d,e⟩:=a.zero (w:=w);have f:=c.run (ds:=ds);obtain ⟨k,h,j⟩:=b.out;have hm:=j w;have qa:((⟨xs⟩:Array (Nat×Operand)).map fun (i,x)=>(i,(F fr ds).eval x)).toList=xs.map fun p=>(p.1,(F fr ds).eval p.2):=by simp
 unfold execOp;simp only [Instr.build,Sem.run_bind,d,Result.andThen_ok,run_underlying h];rw [hm];simp only [Result.andThen_ok,e,qa];rw [f];simp
end
end Go.sd
namespace Go.oc
theorem xa {α:Type}{a0 ta a2 a3 a4 a5 Nb zc Mb a9 v:α}{l:List α}{n:Nat}(h:hc l n v):hc (a0::ta::a2::a3::a4::a5::Nb::zc::Mb::a9::l) (n+10) v:=h
theorem Gb {α:Type}{a0 ta a2 a3 a4 a5 Nb zc Mb a9 v:α}{l Ha:List α}{n:Nat}(h:Hc l n v Ha):Hc (a0::ta::a2::a3::a4::a5::Nb::zc::Mb::a9::l) (n+10) v (a0::ta::a2::a3::a4::a5::Nb::zc::Mb::a9::Ha):=by unfold Hc at *;subst h;rfl
theorem Qa {α:Type}{a0 ta a2 a3 a4 a5 Nb zc Mb a9 Be qc a12 a ec ie b Vc c d v:α}{l:List α}{n:Nat}(h:hc l n v):hc (a0::ta::a2::a3::a4::a5::Nb::zc::Mb::a9::Be::qc::a12::a::ec::ie::b::Vc::c::d::l) (n+20) v:=h
theorem kc {α:Type}{a0 ta a2 a3 a4 a5 Nb zc Mb a9 Be qc a12 a ec ie b Vc c d v:α}{l Ha:List α}{n:Nat}(h:Hc l n v Ha):Hc (a0::ta::a2::a3::a4::a5::Nb::zc::Mb::a9::Be::qc::a12::a::ec::ie::b::Vc::c::d::l) (n+20) v (a0::ta::a2::a3::a4::a5::Nb::zc::Mb::a9::Be::qc::a12::a::ec::ie::b::Vc::c::d::Ha):=by unfold Hc at *;subst h;rfl
theorem Ka {α:Type}{a0 ta a2 a3 a4 a5 Nb zc Mb a9 Be qc a12 a ec ie b Vc c d a20 a21 a22 a23 a24 a25 a26 e a28 f v:α}{l:List α}{n:Nat}(h:hc l n v):hc (a0::ta::a2::a3::a4::a5::Nb::zc::Mb::a9::Be::qc::a12::a::ec::ie::b::Vc::c::d::a20::a21::a22::a23::a24::a25::a26::e::a28::f::l) (n+30) v:=h
theorem xc {α:Type}{a0 ta a2 a3 a4 a5 Nb zc Mb a9 Be qc a12 a ec ie b Vc c d a20 a21 a22 a23 a24 a25 a26 e a28 f v:α}{l Ha:List α}{n:Nat}(h:Hc l n v Ha):Hc (a0::ta::a2::a3::a4::a5::Nb::zc::Mb::a9::Be::qc::a12::a::ec::ie::b::Vc::c::d::a20::a21::a22::a23::a24::a25::a26::e::a28::f::l) (n+30) v (a0::ta::a2::a3::a4::a5::Nb::zc::Mb::a9::Be::qc::a12::a::ec::ie::b::Vc::c::d::a20::a21::a22::a23::a24::a25::a26::e::a28::f::Ha):=by unfold Hc at *;subst h;rfl
theorem gb {α:Type}{a0 ta a2 a3 a4 a5 Nb zc Mb a9 Be qc a12 a ec ie b Vc c d a20 a21 a22 a23 a24 a25 a26 e a28 f g a31 i j k m o a37 p q v:α}{l:List α}{n:Nat}(h:hc l n v):hc (a0::ta::a2::a3::a4::a5::Nb::zc::Mb::a9::Be::qc::a12::a::ec::ie::b::Vc::c::d::a20::a21::a22::a23::a24::a25::a26::e::a28::f::g::a31::i::j::k::m::o::a37::p::q::l) (n+40) v:=h
theorem Tc {α:Type}{a0 ta a2 a3 a4 a5 Nb zc Mb a9 Be qc a12 a ec ie b Vc c d a20 a21 a22 a23 a24 a25 a26 e a28 f g a31 i j k m o a37 p q v:α}{l Ha:List α}{n:Nat}(h:Hc l n v Ha):Hc (a0::ta::a2::a3::a4::a5::Nb::zc::Mb::a9::Be::qc::a12::a::ec::ie::b::Vc::c::d::a20::a21::a22::a23::a24::a25::a26::e::a28::f::g::a31::i::j::k::m::o::a37::p::q::l) (n+40) v (a0::ta::a2::a3::a4::a5::Nb::zc::Mb::a9::Be::qc::a12::a::ec::ie::b::Vc::c::d::a20::a21::a22::a23::a24::a25::a26::e::a28::f::g::a31::i::j::k::m::o::a37::p::q::Ha):=by unfold Hc at *;subst h;rfl
theorem bb {α:Type}{a0 ta a2 a3 a4 a5 Nb zc Mb a9 Be qc a12 a ec ie b Vc c d a20 a21 a22 a23 a24 a25 a26 e a28 f g a31 i j k m o a37 p q a40 r s t u w a46 x y a49 v:α}{l:List α}{n:Nat}(h:hc l n v):hc (a0::ta::a2::a3::a4::a5::Nb::zc::Mb::a9::Be::qc::a12::a::ec::ie::b::Vc::c::d::a20::a21::a22::a23::a24::a25::a26::e::a28::f::g::a31::i::j::k::m::o::a37::p::q::a40::r::s::t::u::w::a46::x::y::a49::l) (n+50) v:=h
theorem mc {α:Type}{a0 ta a2 a3 a4 a5 Nb zc Mb a9 Be qc a12 a ec ie b Vc c d a20 a21 a22 a23 a24 a25 a26 e a28 f g a31 i j k m o a37 p q a40 r s t u w a46 x y a49 v:α}{l Ha:List α}{n:Nat}(h:Hc l n v Ha):Hc (a0::ta::a2::a3::a4::a5::Nb::zc::Mb::a9::Be::qc::a12::a::ec::ie::b::Vc::c::d::a20::a21::a22::a23::a24::a25::a26::e::a28::f::g::a31::i::j::k::m::o::a37::p::q::a40::r::s::t::u::w::a46::x::y::a49::l) (n+50) v (a0::ta::a2::a3::a4::a5::Nb::zc::Mb::a9::Be::qc::a12::a::ec::ie::b::Vc::c::d::a20::a21::a22::a23::a24::a25::a26::e::a28::f::g::a31::i::j::k::m::o::a37::p::q::a40::r::s::t::u::w::a46::x::y::a49::Ha):=by unfold Hc at *;subst h;rfl
theorem Sb {α:Type}{a0 ta a2 a3 a4 a5 Nb zc Mb a9 Be qc a12 a ec ie b Vc c d a20 a21 a22 a23 a24 a25 a26 e a28 f g a31 i j k m o a37 p q a40 r s t u w a46 x y a49 z a51 A a53 B C D E F a59 v:α}{l:List α}{n:Nat}(h:hc l n v):hc (a0::ta::a2::a3::a4::a5::Nb::zc::Mb::a9::Be::qc::a12::a::ec::ie::b::Vc::c::d::a20::a21::a22::a23::a24::a25::a26::e::a28::f::g::a31::i::j::k::m::o::a37::p::q::a40::r::s::t::u::w::a46::x::y::a49::z::a51::A::a53::B::C::D::E::F::a59::l) (n+60) v:=h
theorem ld {α:Type}{a0 ta a2 a3 a4 a5 Nb zc Mb a9 Be qc a12 a ec ie b Vc c d a20 a21 a22 a23 a24 a25 a26 e a28 f g a31 i j k m o a37 p q a40 r s t u w a46 x y a49 z a51 A a53 B C D E F a59 v:α}{l Ha:List α}{n:Nat}(h:Hc l n v Ha):Hc (a0::ta::a2::a3::a4::a5::Nb::zc::Mb::a9::Be::qc::a12::a::ec::ie::b::Vc::c::d::a20::a21::a22::a23::a24::a25::a26::e::a28::f::g::a31::i::j::k::m::o::a37::p::q::a40::r::s::t::u::w::a46::x::y::a49::z::a51::A::a53::B::C::D::E::F::a59::l) (n+60) v (a0::ta::a2::a3::a4::a5::Nb::zc::Mb::a9::Be::qc::a12::a::ec::ie::b::Vc::c::d::a20::a21::a22::a23::a24::a25::a26::e::a28::f::g::a31::i::j::k::m::o::a37::p::q::a40::r::s::t::u::w::a46::x::y::a49::z::a51::A::a53::B::C::D::E::F::a59::Ha):=by unfold Hc at *;subst h;rfl
theorem Bc {α:Type}{a0 ta a2 a3 a4 a5 Nb zc Mb a9 Be qc a12 a ec ie b Vc c d a20 a21 a22 a23 a24 a25 a26 e a28 f g a31 i j k m o a37 p q a40 r s t u w a46 x y a49 z a51 A a53 B C D E F a59 G H K L M N P Q R S v:α}{l:List α}{n:Nat}(h:hc l n v):hc (a0::ta::a2::a3::a4::a5::Nb::zc::Mb::a9::Be::qc::a12::a::ec::ie::b::Vc::c::d::a20::a21::a22::a23::a24::a25::a26::e::a28::f::g::a31::i::j::k::m::o::a37::p::q::a40::r::s::t::u::w::a46::x::y::a49::z::a51::A::a53::B::C::D::E::F::a59::G::H::K::L::M::N::P::Q::R::S::l) (n+70) v:=h
theorem Jf {α:Type}{a0 ta a2 a3 a4 a5 Nb zc Mb a9 Be qc a12 a ec ie b Vc c d a20 a21 a22 a23 a24 a25 a26 e a28 f g a31 i j k m o a37 p q a40 r s t u w a46 x y a49 z a51 A a53 B C D E F a59 G H K L M N P Q R S v:α}{l Ha:List α}{n:Nat}(h:Hc l n v Ha):Hc (a0::ta::a2::a3::a4::a5::Nb::zc::Mb::a9::Be::qc::a12::a::ec::ie::b::Vc::c::d::a20::a21::a22::a23::a24::a25::a26::e::a28::f::g::a31::i::j::k::m::o::a37::p::q::a40::r::s::t::u::w::a46::x::y::a49::z::a51::A::a53::B::C::D::E::F::a59::G::H::K::L::M::N::P::Q::R::S::l) (n+70) v (a0::ta::a2::a3::a4::a5::Nb::zc::Mb::a9::Be::qc::a12::a::ec::ie::b::Vc::c::d::a20::a21::a22::a23::a24::a25::a26::e::a28::f::g::a31::i::j::k::m::o::a37::p::q::a40::r::s::t::u::w::a46::x::y::a49::z::a51::A::a53::B::C::D::E::F::a59::G::H::K::L::M::N::P::Q::R::S::Ha):=by unfold Hc at *;subst h;rfl
theorem Qc {α:Type}{a0 ta a2 a3 a4 a5 Nb zc Mb a9 Be qc a12 a ec ie b Vc c d a20 a21 a22 a23 a24 a25 a26 e a28 f g a31 i j k m o a37 p q a40 r s t u w a46 x y a49 z a51 A a53 B C D E F a59 G H K L M N P Q R S a70 T a72 U W a75 a76 X Y Z v:α}{l:List α}{n:Nat}(h:hc l n v):hc (a0::ta::a2::a3::a4::a5::Nb::zc::Mb::a9::Be::qc::a12::a::ec::ie::b::Vc::c::d::a20::a21::a22::a23::a24::a25::a26::e::a28::f::g::a31::i::j::k::m::o::a37::p::q::a40::r::s::t::u::w::a46::x::y::a49::z::a51::A::a53::B::C::D::E::F::a59::G::H::K::L::M::N::P::Q::R::S::a70::T::a72::U::W::a75::a76::X::Y::Z::l) (n+80) v:=h
theorem Qe {α:Type}{a0 ta a2 a3 a4 a5 Nb zc Mb a9 Be qc a12 a ec ie b Vc c d a20 a21 a22 a23 a24 a25 a26 e a28 f g a31 i j k m o a37 p q a40 r s t u w a46 x y a49 z a51 A a53 B C D E F a59 G H K L M N P Q R S a70 T a72 U W a75 a76 X Y Z v:α}{l Ha:List α}{n:Nat}(h:Hc l n v Ha):Hc (a0::ta::a2::a3::a4::a5::Nb::zc::Mb::a9::Be::qc::a12::a::ec::ie::b::Vc::c::d::a20::a21::a22::a23::a24::a25::a26::e::a28::f::g::a31::i::j::k::m::o::a37::p::q::a40::r::s::t::u::w::a46::x::y::a49::z::a51::A::a53::B::C::D::E::F::a59::G::H::K::L::M::N::P::Q::R::S::a70::T::a72::U::W::a75::a76::X::Y::Z::l) (n+80) v (a0::ta::a2::a3::a4::a5::Nb::zc::Mb::a9::Be::qc::a12::a::ec::ie::b::Vc::c::d::a20::a21::a22::a23::a24::a25::a26::e::a28::f::g::a31::i::j::k::m::o::a37::p::q::a40::r::s::t::u::w::a46::x::y::a49::z::a51::A::a53::B::C::D::E::F::a59::G::H::K::L::M::N::P::Q::R::S::a70::T::a72::U::W::a75::a76::X::Y::Z::Ha):=by unfold Hc at *;subst h;rfl
theorem me {α:Type}{a0 ta a2 a3 a4 a5 Nb zc Mb a9 Be qc a12 a ec ie b Vc c d a20 a21 a22 a23 a24 a25 a26 e a28 f g a31 i j k m o a37 p q a40 r s t u w a46 x y a49 z a51 A a53 B C D E F a59 G H K L M N P Q R S a70 T a72 U W a75 a76 X Y Z a80 gc lc rc fd a85 id a87 md rd v:α}{l:List α}{n:Nat}(h:hc l n v):hc (a0::ta::a2::a3::a4::a5::Nb::zc::Mb::a9::Be::qc::a12::a::ec::ie::b::Vc::c::d::a20::a21::a22::a23::a24::a25::a26::e::a28::f::g::a31::i::j::k::m::o::a37::p::q::a40::r::s::t::u::w::a46::x::y::a49::z::a51::A::a53::B::C::D::E::F::a59::G::H::K::L::M::N::P::Q::R::S::a70::T::a72::U::W::a75::a76::X::Y::Z::a80::gc::lc::rc::fd::a85::id::a87::md::rd::l) (n+90) v:=h
theorem vh {α:Type}{a0 ta a2 a3 a4 a5 Nb zc Mb a9 Be qc a12 a ec ie b Vc c d a20 a21 a22 a23 a24 a25 a26 e a28 f g a31 i j k m o a37 p q a40 r s t u w a46 x y a49 z a51 A a53 B C D E F a59 G H K L M N P Q R S a70 T a72 U W a75 a76 X Y Z a80 gc lc rc fd a85 id a87 md rd v:α}{l Ha:List α}{n:Nat}(h:Hc l n v Ha):Hc (a0::ta::a2::a3::a4::a5::Nb::zc::Mb::a9::Be::qc::a12::a::ec::ie::b::Vc::c::d::a20::a21::a22::a23::a24::a25::a26::e::a28::f::g::a31::i::j::k::m::o::a37::p::q::a40::r::s::t::u::w::a46::x::y::a49::z::a51::A::a53::B::C::D::E::F::a59::G::H::K::L::M::N::P::Q::R::S::a70::T::a72::U::W::a75::a76::X::Y::Z::a80::gc::lc::rc::fd::a85::id::a87::md::rd::l) (n+90) v (a0::ta::a2::a3::a4::a5::Nb::zc::Mb::a9::Be::qc::a12::a::ec::ie::b::Vc::c::d::a20::a21::a22::a23::a24::a25::a26::e::a28::f::g::a31::i::j::k::m::o::a37::p::q::a40::r::s::t::u::w::a46::x::y::a49::z::a51::A::a53::B::C::D::E::F::a59::G::H::K::L::M::N::P::Q::R::S::a70::T::a72::U::W::a75::a76::X::Y::Z::a80::gc::lc::rc::fd::a85::id::a87::md::rd::Ha):=by unfold Hc at *;subst h;rfl
theorem Ba {α:Type}{a0 ta a2 a3 a4 a5 Nb zc Mb a9 Be qc a12 a ec ie b Vc c d a20 a21 a22 a23 a24 a25 a26 e a28 f g a31 i j k m o a37 p q a40 r s t u w a46 x y a49 z a51 A a53 B C D E F a59 G H K L M N P Q R S a70 T a72 U W a75 a76 X Y Z a80 gc lc rc fd a85 id a87 md rd td a91 wd a93 Fd Id be ce ge he v:α}{l:List α}{n:Nat}(h:hc l n v):hc (a0::ta::a2::a3::a4::a5::Nb::zc::Mb::a9::Be::qc::a12::a::ec::ie::b::Vc::c::d::a20::a21::a22::a23::a24::a25::a26::e::a28::f::g::a31::i::j::k::m::o::a37::p::q::a40::r::s::t::u::w::a46::x::y::a49::z::a51::A::a53::B::C::D::E::F::a59::G::H::K::L::M::N::P::Q::R::S::a70::T::a72::U::W::a75::a76::X::Y::Z::a80::gc::lc::rc::fd::a85::id::a87::md::rd::td::a91::wd::a93::Fd::Id::be::ce::ge::he::l) (n+100) v:=h
theorem Jb {α:Type}{a0 ta a2 a3 a4 a5 Nb zc Mb a9 Be qc a12 a ec ie b Vc c d a20 a21 a22 a23 a24 a25 a26 e a28 f g a31 i j k m o a37 p q a40 r s t u w a46 x y a49 z a51 A a53 B C D E F a59 G H K L M N P Q R S a70 T a72 U W a75 a76 X Y Z a80 gc lc rc fd a85 id a87 md rd td a91 wd a93 Fd Id be ce ge he v:α}{l Ha:List α}{n:Nat}(h:Hc l n v Ha):Hc (a0::ta::a2::a3::a4::a5::Nb::zc::Mb::a9::Be::qc::a12::a::ec::ie::b::Vc::c::d::a20::a21::a22::a23::a24::a25::a26::e::a28::f::g::a31::i::j::k::m::o::a37::p::q::a40::r::s::t::u::w::a46::x::y::a49::z::a51::A::a53::B::C::D::E::F::a59::G::H::K::L::M::N::P::Q::R::S::a70::T::a72::U::W::a75::a76::X::Y::Z::a80::gc::lc::rc::fd::a85::id::a87::md::rd::td::a91::wd::a93::Fd::Id::be::ce::ge::he::l) (n+100) v (a0::ta::a2::a3::a4::a5::Nb::zc::Mb::a9::Be::qc::a12::a::ec::ie::b::Vc::c::d::a20::a21::a22::a23::a24::a25::a26::e::a28::f::g::a31::i::j::k::m::o::a37::p::q::a40::r::s::t::u::w::a46::x::y::a49::z::a51::A::a53::B::C::D::E::F::a59::G::H::K::L::M::N::P::Q::R::S::a70::T::a72::U::W::a75::a76::X::Y::Z::a80::gc::lc::rc::fd::a85::id::a87::md::rd::td::a91::wd::a93::Fd::Id::be::ce::ge::he::Ha):=by unfold Hc at *;subst h;rfl
end Go.oc
namespace Go.oc
open Go.RowKit
section
variable {P:Program}{Q:Exit→Act→World→Prop}{K:List Value→List Deferred→World→Prop}{fr Fa:List Value}{ds:List Deferred}{w:World}
variable {dst:Option Tmp}{ty:TypeId}{pos:String}{after:Array Edge}{g:Option (Nat×Bool)}
variable {S Jd:Nat→Prop}{J:World}{rs Lc:List dc}{A:World→Prop}
variable {T:TypeId}
inductive Yj:TypeDesc→Value→Prop where
 | str (l:List UInt8):Yj .string (oc.S l)
 | int (k:IntKind) (n:Int):Yj (.int k) (.int k n)
def Bj:Value→Value→Bool
 | .string a,.string b=>decide (a.data.toList=b.data.toList)
 | .int _ a,.int _ b=>decide (a=b)
 | _,_=>false
def Pl (es:List MapEntry) (k:Value):Option (Nat×Value):=(es.zipIdx.find? fun e=>Bj k e.1.key).map fun e=>(e.2,e.1.val)
theorem WE {d:TypeDesc}{k:Value}(a:Yj d k):∀ (es:List MapEntry) (i:Nat),(∀ e ∈ es,Yj d e.key)→Instr.findNow d k es i=some (((es.zipIdx i).find? fun e=>Bj k e.1.key).map fun e=>(e.2,e.1.val)):=by
 intro es
 induction es with
 | nil=>intro i _; simp [Instr.findNow]
 | cons e es b =>
  intro i h;have he:=h e (by simp);have c:=b (i+1) fun x f=>h x (by simp [f]);simp only [Instr.findNow,List.zipIdx_cons,List.find?_cons];have hs:Instr.sameNow d k e.key=some (Bj k e.key):=by
   generalize e.key=g at he;cases a with
   | str l =>
    cases he with
    | str Ha =>
     simp only [Instr.sameNow,oc.S,Bj];congr 1;rw [Bool.eq_iff_iff,ny];simp
   | int kk n =>
    cases he with
    | int _ j =>
     simp only [Instr.sameNow,if_true,Bj];congr 1
  rw [hs];cases m:Bj k e.key with
  | true=>simp
  | false=>exact c
theorem run_findKey {Se:TypeId}{d:TypeDesc}{k:Value}{es:List MapEntry}(a:P.underlying Se=some d) (b:Yj d k) (he:∀ e ∈ es,Yj d e.key):(Instr.findKey Se k es).run P w=.ok (Pl es k) w:=by
 unfold Instr.findKey Pl;simp only [Sem.run_bind,run_underlying a,Result.andThen_ok,WE b es 0 he];rfl
theorem run_checkKey {Se:TypeId}{d:TypeDesc}{k:Value}{b:Bool}(a:P.underlying Se=some d) (c:Yj d k):(Instr.checkKey b 10000 Se k).run P w=.ok () w:=by
 show (Instr.checkKey b (9999+1) Se k).run P w=_;unfold Instr.checkKey;simp only [Sem.run_bind,run_underlying a,Result.andThen_ok];cases c<;>rfl
theorem Pj (a:Sep S Jd J w rs A) (h:∀ b w',w.heap.size≤b→Sep S Jd J w' (.map b [] 0::rs) A→Mg fr dst (.map (some b)) fun Fa=>K Fa ds w'):De P (Oper.mk dst (.makeMap T none) ty pos after g) fr ds w K Q:=by
 obtain ⟨Fa,ya⟩:=Ph fr dst (.map (some w.heap.size));refine sh (v:=.map (some w.heap.size)) (w':=w.alloc (.map #[] 0)) ?_ ya (h _ _ (Nat.le_refl _) (a.alloc rfl (heap_alloc_new w _)) Fa ya);simp [execOp,Instr.makeMap]
def Tj (es:List MapEntry) (k z:Value):Value:=(Pl es k).elim z (·.2)
def Up (es:List MapEntry) (k:Value):Bool:=(Pl es k).isSome
def putAt (es:List MapEntry) (c:Nat) (k v:Value):List MapEntry:=match Pl es k with
 | some (i,_)=>es.modify i fun e=>{ e with key:=k,val:=v }
 | none=>es++[{ key:=k,val:=v,born:=c }]
def Tn (es:List MapEntry) (c:Nat) (k:Value):Nat:=match Pl es k with
 | some _=>c
 | none=>c+1
theorem XE {es:List MapEntry}{k v:Value}{i:Nat}(h:Pl es k=some (i,v)):∃ e,es[i]?=some e∧Bj k e.key=true∧e.val=v:=by
 unfold Pl at h;cases a:es.zipIdx.find? fun e=>Bj k e.1.key with
 | none=>rw [a] at h; cases h
 | some x =>
  rw [a] at h;simp only [Option.map_some,Option.some.injEq,Prod.mk.injEq] at h;obtain ⟨rfl,rfl⟩:=h;have b:=List.find?_some (p:=fun e:MapEntry×Nat=>Bj k e.1.key) a;have c:=List.mem_of_find?_eq_some a;exact ⟨x.1,by have:=List.mem_zipIdx_iff_getElem?.1 c;simpa using this,b,rfl⟩
theorem HF {d:TypeDesc}{k a:Value}(c:Yj d k) (b:Yj d a) (h:Bj k a=true):Instr.sameBits 10000 a k=true:=by
 cases c with
 | str l =>
  cases b with
  | str Ha =>
   simp [Bj,oc.S] at h;subst h;simp only [Instr.sameBits,oc.S];exact (ny _ _).2 rfl
 | int kk n =>
  cases b with
  | int _ e =>
   simp [Bj] at h;subst h;simp [Instr.sameBits]
theorem uC {x y z:Operand}{Se aa:TypeId}{d:TypeDesc}{vf v:Value}{b c k:Nat}{es:List MapEntry}(m:P.underlying T=some (.map Se aa)) (n:P.underlying Se=some d) (o:zb fr x (.map (some b))) (p:zb fr y vf) (a:Yj d vf) (q:zb fr z v)
  (r:Sep S Jd J w rs A) (qa:hc rs k (.map b es c)) (he:∀ e ∈ es,Yj d e.key)
  (ya:Vf fr dst undef Fa) (h:∀ w' Lc,Hc rs k (.map b (putAt es c vf v) (Tn es c vf)) Lc→Sep S Jd J w' Lc A→K Fa ds w'):De P (Oper.mk dst (.mapUpdate T x y z) ty pos after g) fr ds w K Q:=by
 have f:w.heap[b]?=some (.map ⟨es⟩ c):=r.get qa;have C:b<w.heap.size:=(Array.getElem?_eq_some_iff.1 f).1
 let w':World:={ w with heap:=w.heap.setIfInBounds b (.map ⟨putAt es c vf v⟩ (Tn es c vf)) }
 have D:Xh (fun k=>k≠b) w w':=⟨rfl,rfl,rfl,by simp [w'],fun j _ E=>by simp [w',Array.getElem?_setIfInBounds,Ne.symm E]⟩;have F:=r.put (b:=b) (r':=.map b (putAt es c vf v) (Tn es c vf)) (w':=w') qa rfl rfl rfl (by show w'.heap[b]?=_;simp [w',C]) D;have s:=run_checkKey (P:=P) (w:=w) (b:=false) n a;have t:=run_findKey (P:=P) (w:=w) n a he;refine uz (w':=w') ?_ ya (h w' _ rfl F);cases l:Pl es vf with
 | none=>simp [execOp,o ds,p ds,q ds,Instr.mapUpdate,run_underlying m,getObj,setObj,Sem.run,f,Result.andThen,s,t,l,w',putAt,Tn]
 | some e =>
  obtain ⟨i,u⟩:=e;obtain ⟨e,B,G,-⟩:=XE l;have H:=HF a (he e (List.mem_of_getElem? B)) G;simp [execOp,o ds,p ds,q ds,Instr.mapUpdate,run_underlying m,getObj,setObj,Sem.run,f,Result.andThen,s,t,l,B,Instr.keyThatStays,H,w',putAt,Tn]
theorem hG {x:Operand}{Se aa:TypeId}{m c k:Nat}{es:List MapEntry}(d:P.underlying T=some (.map Se aa)) (e:zb fr x (.map (some m))) (a:Sep S Jd J w rs A) (qa:hc rs k (.map m es c))
  (h:∀ b w',w.heap.size≤b→Sep S Jd J w' (.nj b m c [] c::rs) A→Mg fr dst (.pointer (some ⟨b,0,none⟩)) fun Fa=>K Fa ds w'):De P (Oper.mk dst (.range T x) ty pos after g) fr ds w K Q:=by
 have f:w.heap[m]?=some (.map ⟨es⟩ c):=a.get qa;obtain ⟨Fa,ya⟩:=Ph fr dst (.pointer (some ⟨w.heap.size,0,none⟩));refine sh (v:=.pointer (some ⟨w.heap.size,0,none⟩)) (w':=w.alloc (.mapIter (some m) c #[] c)) ?_ ya (h _ _ (Nat.le_refl _) (a.alloc rfl (heap_alloc_new w _)) Fa ya);simp [execOp,e ds,Instr.range,run_underlying d,getObj,Sem.run,f,Result.andThen]
end
end Go.oc
namespace Go.sd
open Go.oc Go.RowKit
section
variable {P:Program}{Q:Exit→Act→World→Prop}{K:List Value→List Deferred→World→Prop}{fr Fa:List Value}{ds:List Deferred}{w:World}
variable {dst:Option Tmp}{ty:TypeId}{pos:String}{after:Array Edge}{g:Option (Nat×Bool)}
variable {J:World}{rs Lc:List dc}{μ la:M}
variable {T:TypeId}{d:TypeDesc}{ag:Bool}{Vd:List Value}{n m:Nat}
theorem QB {x y:Operand}{Se aa:TypeId}{d:TypeDesc}{vf z:Value}{b c:Nat}{es:List MapEntry}(a:P.underlying T=some (.map Se aa)) (f:P.underlying Se=some d) (i:zb fr x (.map (some b))) (j:zb fr y vf) (k:Yj d vf)
  (p:∀ w,(zeroValue aa).run P w=.ok z w) (l:w.heap[b]?=some (.map ⟨es⟩ c)) (he:∀ e ∈ es,Yj d e.key)
  (q:Vf fr dst (Tj es vf z) Fa) (h:K Fa ds w):De P (Oper.mk dst (.lookup T x y false) ty pos after g) fr ds w K Q:=by
 refine sh (w':=w) ?_ q h;have m:=run_checkKey (w:=w) (b:=es.isEmpty) f k;have n:=run_findKey (w:=w) f k he;cases o:Pl es vf with
 | none=>simp [execOp,i ds,j ds,Instr.lookup,run_underlying a,getObj,Sem.run,l,Result.andThen,m,n,o,p w,Tj]
 | some e=>simp [execOp,i ds,j ds,Instr.lookup,run_underlying a,getObj,Sem.run,l,Result.andThen,m,n,o,Tj]
theorem py {x y:Operand}{Se aa:TypeId}{d:TypeDesc}{vf z:Value}{b c:Nat}{es:List MapEntry}(a:P.underlying T=some (.map Se aa)) (f:P.underlying Se=some d) (i:zb fr x (.map (some b))) (j:zb fr y vf) (k:Yj d vf)
  (p:∀ w,(zeroValue aa).run P w=.ok z w) (l:w.heap[b]?=some (.map ⟨es⟩ c)) (he:∀ e ∈ es,Yj d e.key)
  (q:Vf fr dst (.tuple #[Tj es vf z,.bool (Up es vf)]) Fa) (h:K Fa ds w):De P (Oper.mk dst (.lookup T x y true) ty pos after g) fr ds w K Q:=by
 refine sh (w':=w) ?_ q h;have m:=run_checkKey (w:=w) (b:=es.isEmpty) f k;have n:=run_findKey (w:=w) f k he;cases o:Pl es vf with
 | none=>simp [execOp,i ds,j ds,Instr.lookup,run_underlying a,getObj,Sem.run,l,Result.andThen,m,n,o,p w,Tj,Up]
 | some e=>simp [execOp,i ds,j ds,Instr.lookup,run_underlying a,getObj,Sem.run,l,Result.andThen,m,n,o,Tj,Up]
class mb (κ:Type) [DecidableEq κ] where
 key:κ→Value
 bg:TypeDesc
 Se:∀ k,Yj bg (key k)
 eq:∀ a b,Bj (key a) (key b)=decide (a=b)
instance:mb (List UInt8) where
 key:=S
 bg:=.string
 Se:=.str
 eq a b:=by simp [Bj,S]
instance:mb Int where
 key n:=.int .i64 n
 bg:=.int .i64
 Se:=.int .i64
 eq a b:=by simp [Bj]
class hh (β:Type) where
 Ni:M→Value→β→Prop
 up:∀ {μ la:M}{v:Value}{x:β},ea μ la→Ni μ v x→Ni la v x
instance:hh Int where
 Ni _ v x:=v=.int .i64 x
 up _ h:=h
def jr {α:Type}[Sa α] (μ:M) (v:Value) (x:α):Prop:=∃ cs,v=.agg ⟨cs⟩∧Sa.cs μ cs x
theorem jr.up {α:Type}[Sa α]{v:Value}{x:α}(l:ea μ la) (h:jr μ v x):jr la v x:=by
 obtain ⟨cs,a,b⟩:=h;exact ⟨cs,a,Sa.up l b⟩
def Zn {α:Type}[Sa α] (μ:M) (v:Value) (x:α):Prop:=∃ b o cs,v=.pointer (some ⟨b,o,none⟩)∧Ec μ b o cs∧Sa.cs μ cs x
theorem Zn.up {α:Type}[Sa α]{v:Value}{x:α}(l:ea μ la) (h:Zn μ v x):Zn la v x:=by
 obtain ⟨b,o,cs,a,c,d⟩:=h;exact ⟨b,o,cs,a,c.up l,Sa.up l d⟩
def we {α:Type}[Sa α] (μ:M) (v:Value):Option α→Prop
 | none=>v=.pointer none
 | some x=>Zn μ v x
theorem we.up {α:Type}[Sa α]{v:Value}{x:Option α}(h:we μ v x) (l:ea μ la):we la v x:=by
 cases x with
 | none=>exact h
 | some x=>exact Zn.up l h
theorem we.Ae {α:Type}[Sa α]{v:Value}{x:Option α}(h:we μ v x):Ae v=true:=by
 cases x with
 | none=>rw [show v=.pointer none from h]; rfl
 | some x=>obtain ⟨b,o,cs,rfl,-⟩:=h; rfl
theorem we.of {α:Type}[Sa α]{b o:Nat}{cs:List Value}{x:α}(h:Ec μ b o cs) (k:Sa.cs μ cs x):we μ (.pointer (some ⟨b,o,none⟩)) (some x):=⟨b,o,cs,rfl,h,k⟩
theorem we.get {α:Type}[Sa α]{v:Value}{o:Option α}{x:α}(h:we μ v o) (g:o=some x):∃ b o cs,v=.pointer (some ⟨b,o,none⟩)∧Ec μ b o cs∧Sa.cs μ cs x:=by
 subst g;exact h
instance {α:Type}[Sa α]:Sa (Option α) where
 sz:=1
 pos:=by decide
 cs μ l x:=∃ v,l=[v]∧we μ v x
 vg h:=by obtain ⟨v,rfl,-⟩:=h;rfl
 up l h:=by obtain ⟨v,a,b⟩:=h;exact ⟨v,a,b.up l⟩
 ei h:=by obtain ⟨v,rfl,h⟩:=h;simp [h.Ae]
def Aa {κ β:Type}[DecidableEq κ]:List (κ×β)→κ→Option β
 | [],_=>none
 | (a,b)::m,k=>if a=k then some b else Aa m k
def Fc {κ β:Type}[DecidableEq κ]:List (κ×β)→κ→β→List (κ×β)
 | [],k,x=>[(k,x)]
 | (a,b)::m,k,x=>if a=k then (k,x)::m else (a,b)::Fc m k x
def nf {κ β:Type}[DecidableEq κ] [mb κ] [hh β] (μ:M):List MapEntry→List (κ×β)→Prop
 | [],m=>m=[]
 | e::es,m=>∃ k x t,m=(k,x)::t∧e.key=mb.key k∧hh.Ni μ e.val x∧nf μ es t
structure xe {κ β:Type}[DecidableEq κ] [mb κ] [hh β] (μ:M) (es:List MapEntry) (c:Nat) (m:List (κ×β)):Prop where
 vf:nf μ es m
 lt:∀ e ∈ es,e.born<c
 inc:es.Pairwise fun a b=>a.born<b.born
variable {κ β:Type}[DecidableEq κ] [mb κ] [hh β]
theorem nf.up (l:ea μ la):∀ {es:List MapEntry}{m:List (κ×β)},nf μ es m→nf la es m
 | [],m,h=>by rw [nf] at h ⊢; exact h
 | e::es,m,h=>by
  rw [nf] at h ⊢;obtain ⟨k,x,t,a,b,c,d⟩:=h;exact ⟨k,x,t,a,b,hh.up l c,nf.up l d⟩
theorem xe.up {es:List MapEntry}{c:Nat}{m:List (κ×β)}(h:xe μ es c m) (l:ea μ la):xe la es c m:=⟨h.vf.up l,h.lt,h.inc⟩
theorem nf.keys:∀ {es:List MapEntry}{m:List (κ×β)},nf μ es m→∀ e ∈ es,Yj (mb.bg (κ:=κ)) e.key
 | [],m,_,e,he=>by cases he
 | e::es,m,h,a,he=>by
  rw [nf] at h;obtain ⟨k,x,t,d,b,f,c⟩:=h;rcases List.mem_cons.1 he with rfl | he
  ·rw [b];exact mb.Se k
  ·exact nf.keys c a he
theorem nf.len:∀ {es:List MapEntry}{m:List (κ×β)},nf μ es m→es.length=m.length
 | [],m,h=>by rw [nf] at h; simp [h]
 | e::es,m,h=>by
  rw [nf] at h;obtain ⟨k,x,t,rfl,b,c,a⟩:=h;simp [nf.len a]
def Ek (vf:Value):List MapEntry→Option (Nat×Value)
 | []=>none
 | e::es=>if Bj vf e.key then some (0,e.val) else (Ek vf es).map fun p=>(p.1+1,p.2)
theorem RB (vf:Value):∀ (es:List MapEntry) (i:Nat),(((es.zipIdx i).find? fun e=>Bj vf e.1.key).map fun e=>(e.2,e.1.val))=(Ek vf es).map fun p=>(p.1+i,p.2)
 | [],i=>rfl
 | e::es,i=>by
  rw [List.zipIdx_cons,List.find?_cons,Ek];cases h:Bj vf e.key with
  | true=>simp
  | false =>
   simp only [Bool.false_eq_true,if_false];rw [RB vf es (i+1),Option.map_map];congr 1;funext p;simp;omega
theorem du (es:List MapEntry) (vf:Value):Pl es vf=Ek vf es:=by
 unfold Pl;rw [RB];cases Ek vf es<;>simp
theorem nf.look:∀ {es:List MapEntry}{m:List (κ×β)},nf μ es m→∀ k:κ,(match Ek (mb.key k) es with | none=>Aa m k=none | some p=>∃ x,Aa m k=some x∧hh.Ni μ p.2 x)
 | [],m,h,k=>by rw [nf] at h; subst h; rfl
 | e::es,m,h,k=>by
  rw [nf] at h;obtain ⟨d,x,t,rfl,f,g,i⟩:=h;rw [Ek,Aa,f,mb.eq];have a:=nf.look i k;by_cases b:k=d
  ·subst b;simp;exact g
  ·rw [if_neg (by simpa using b),if_neg (fun e=>b e.symm)];cases c:Ek (mb.key k) es with
   | none=>rw [c] at a; exact a
   | some p=>rw [c] at a; exact a
theorem nf.get {es:List MapEntry}{m:List (κ×β)}(h:nf μ es m) (k:κ){z:Value}{zx:β}(b:hh.Ni μ z zx):hh.Ni μ (Tj es (mb.key k) z) ((Aa m k).getD zx):=by
 have:=h.look k;unfold Tj;rw [du];cases a:Ek (mb.key k) es with
 | none=>rw [a] at this; simp only at this; rw [this]; exact b
 | some p=>rw [a] at this; obtain ⟨x,c,d⟩:=this; rw [c]; exact d
theorem nf.has {es:List MapEntry}{m:List (κ×β)}(h:nf μ es m) (k:κ):Up es (mb.key k)=(Aa m k).isSome:=by
 have:=h.look k;unfold Up;rw [du];cases a:Ek (mb.key k) es with
 | none=>rw [a] at this; simp only at this; rw [this]; rfl
 | some p=>rw [a] at this; obtain ⟨x,b,c⟩:=this; rw [b]; rfl
theorem nf.put:∀ {es:List MapEntry}{m:List (κ×β)},nf μ es m→∀ (k:κ){v:Value}{x:β},hh.Ni μ v x→∀ c,nf μ (match Ek (mb.key k) es with | some (i,_)=>es.modify i fun e=>{ e with key:=mb.key k,val:=v } | none=>es++[{ key:=mb.key k,val:=v,born:=c }]) (Fc m k x)
 | [],m,h,k,v,x,Ab,c=>by
  rw [nf] at h;subst h;exact ⟨k,x,[],rfl,rfl,Ab,rfl⟩
 | e::es,m,h,k,v,x,Ab,c=>by
  rw [nf] at h;obtain ⟨b,g,t,rfl,d,j,l⟩:=h;rw [Ek,Fc,d,mb.eq];have a:=nf.put l k Ab c;by_cases f:k=b
  ·subst f;simp;exact ⟨k,x,t,rfl,rfl,Ab,l⟩
  ·rw [if_neg (by simpa using f),if_neg (fun e=>f e.symm)];cases n:Ek (mb.key k) es with
   | none=>rw [n] at a; exact ⟨b,g,_,rfl,d,j,a⟩
   | some p=>rw [n] at a; exact ⟨b,g,_,rfl,d,j,a⟩
theorem xe.put {es:List MapEntry}{c:Nat}{m:List (κ×β)}(h:xe μ es c m) (k:κ){v:Value}{x:β}(Ab:hh.Ni μ v x):xe μ (putAt es c (mb.key k) v) (Tn es c (mb.key k)) (Fc m k x):=by
 have d:=h.vf.put k Ab c;have na:∀ i,(es.modify i fun e=>{ e with key:=mb.key k,val:=v }).map (·.born)=es.map (·.born):=by
  intro i;refine List.ext_getElem (by simp) fun j t w=>?_;simp only [List.getElem_map,List.getElem_modify];split<;>rfl
 have n:∀ l:List MapEntry,l.map (·.born)=es.map (·.born)→∀ e ∈ l,e.born<c:=fun l qa e he=>by
  have hm:e.born ∈ es.map (·.born):=qa ▸ List.mem_map_of_mem he;obtain ⟨o,q,f⟩:=List.mem_map.1 hm;rw [← f];exact h.lt o q
 have r:∀ l:List MapEntry,l.map (·.born)=es.map (·.born)→l.Pairwise fun a b=>a.born<b.born:=fun l qa=>by
  have:(es.map (·.born)).Pairwise (·<·):=List.pairwise_map.2 h.inc;rw [← qa] at this;exact List.pairwise_map.1 this
 unfold putAt Tn;rw [du];cases g:Ek (mb.key k) es with
 | some p =>
  obtain ⟨i,u⟩:=p;rw [g] at d;exact ⟨d,n _ (na i),r _ (na i)⟩
 | none =>
  rw [g] at d;refine ⟨d,fun e he=>?_,?_⟩
  ·rcases List.mem_append.1 he with he | he
   ·exact Nat.lt_succ_of_lt (h.lt e he)
   ·simp at he;subst he;exact Nat.lt_succ_self _
  ·rw [List.pairwise_append];refine ⟨h.inc,by simp,fun a s b f=>?_⟩;simp at f;subst f;exact h.lt a s
theorem xe.nil {c:Nat}:xe (κ:=κ) (β:=β) μ [] c []:=⟨rfl,by simp,by simp⟩
def Mf (μ:M) (b:Nat) (m:List (κ×β)):Prop:=∃ es c,(∀ w,μ w→w.heap[b]?=some (.map ⟨es⟩ c))∧xe μ es c m
theorem Mf.up {b:Nat}{m:List (κ×β)}(h:Mf μ b m) (l:ea μ la):Mf la b m:=by
 obtain ⟨es,c,a,d⟩:=h;exact ⟨es,c,fun w hw=>a w (l w hw),d.up l⟩
theorem _root_.Go.oc.Sep.nm {b c:Nat}{es:List MapEntry}{m:List (κ×β)}(h:ka μ J w (.map b es c::rs)) (hm:xe μ es c m):∃ la,ea μ la∧Mf la b m∧ka la J w rs :=
 ⟨_,fun _ hw=>hw.1,⟨es,c,fun _ hw=>hw.2,hm.up fun _ hw=>hw.1⟩,Sep.qx (B:=fun w=>w.heap[b]?=some (.map ⟨es⟩ c)) h fun _ hw=>hw⟩
theorem Jy {x y:Operand}{Se aa:TypeId}{z:Value}{b c:Nat}{es:List MapEntry}{m:List (κ×β)}{k:κ}{zx:β}(a:P.underlying T=some (.map Se aa)) (d:P.underlying Se=some (mb.bg (κ:=κ))) (e:zb fr x (.map (some b))) (f:zb fr y (mb.key k))
  (i:∀ w,(zeroValue aa).run P w=.ok z w) (j:hh.Ni μ z zx) (l:w.heap[b]?=some (.map ⟨es⟩ c)) (he:xe μ es c m)
  (h:∀ v,hh.Ni μ v ((Aa m k).getD zx)→Mg fr dst (.tuple #[v,.bool (Aa m k).isSome]) fun Fa=>K Fa ds w):De P (Oper.mk dst (.lookup T x y true) ty pos after g) fr ds w K Q:=by
 obtain ⟨Fa,ya⟩:=Ph fr dst (.tuple #[Tj es (mb.key k) z,.bool (Up es (mb.key k))]);refine py a d e f (mb.Se k) i l he.vf.keys ya ?_;rw [he.vf.has k] at ya;exact h _ (he.vf.get k j) Fa ya
theorem Kl {x y:Operand}{Se aa:TypeId}{z:Value}{b c:Nat}{es:List MapEntry}{m:List (κ×β)}{k:κ}{zx:β}(a:P.underlying T=some (.map Se aa)) (d:P.underlying Se=some (mb.bg (κ:=κ))) (e:zb fr x (.map (some b))) (f:zb fr y (mb.key k))
  (i:∀ w,(zeroValue aa).run P w=.ok z w) (j:hh.Ni μ z zx) (l:w.heap[b]?=some (.map ⟨es⟩ c)) (he:xe μ es c m)
  (h:∀ v,hh.Ni μ v ((Aa m k).getD zx)→Mg fr dst v fun Fa=>K Fa ds w):De P (Oper.mk dst (.lookup T x y false) ty pos after g) fr ds w K Q:=by
 obtain ⟨Fa,ya⟩:=Ph fr dst (Tj es (mb.key k) z);refine QB a d e f (mb.Se k) i l he.vf.keys ya ?_;exact h _ (he.vf.get k j) Fa ya
theorem nf.oD {α:Type}[Sa α] [hh α] (hrv:∀ (v:Value) (x:α),hh.Ni μ v x→Zn μ v x){es:List MapEntry}{m:List (κ×α)}(h:nf μ es m) (k:κ):we μ (Tj es (mb.key k) (.pointer none)) (Aa m k):=by
 have:=h.look k;unfold Tj;rw [du];cases a:Ek (mb.key k) es with
 | none=>rw [a] at this; simp only at this; rw [this]; rfl
 | some p=>rw [a] at this; obtain ⟨x,b,c⟩:=this; rw [b]; exact hrv _ _ c
theorem zB {α:Type}[Sa α] [hh α] (hrv:∀ (v:Value) (x:α),hh.Ni μ v x→Zn μ v x){x y:Operand}{Se aa:TypeId}{b c:Nat}{es:List MapEntry}{m:List (κ×α)}{k:κ}(a:P.underlying T=some (.map Se aa)) (d:P.underlying Se=some (mb.bg (κ:=κ))) (e:zb fr x (.map (some b))) (f:zb fr y (mb.key k))
  (i:∀ w,(zeroValue aa).run P w=.ok (.pointer none) w) (j:w.heap[b]?=some (.map ⟨es⟩ c)) (he:xe μ es c m)
  (h:∀ v,we μ v (Aa m k)→Mg fr dst (.tuple #[v,.bool (Aa m k).isSome]) fun Fa=>K Fa ds w):De P (Oper.mk dst (.lookup T x y true) ty pos after g) fr ds w K Q:=by
 obtain ⟨Fa,ya⟩:=Ph fr dst (.tuple #[Tj es (mb.key k) (.pointer none),.bool (Up es (mb.key k))]);refine py a d e f (mb.Se k) i j he.vf.keys ya ?_;rw [he.vf.has k] at ya;exact h _ (he.vf.oD hrv k) Fa ya
theorem lu {α:Type}[Sa α] [hh α] (hrv:∀ (v:Value) (x:α),hh.Ni μ v x→Zn μ v x){x y:Operand}{Se aa:TypeId}{b c:Nat}{es:List MapEntry}{m:List (κ×α)}{k:κ}(a:P.underlying T=some (.map Se aa)) (d:P.underlying Se=some (mb.bg (κ:=κ))) (e:zb fr x (.map (some b))) (f:zb fr y (mb.key k))
  (i:∀ w,(zeroValue aa).run P w=.ok (.pointer none) w) (j:w.heap[b]?=some (.map ⟨es⟩ c)) (he:xe μ es c m)
  (h:∀ v,we μ v (Aa m k)→Mg fr dst v fun Fa=>K Fa ds w):De P (Oper.mk dst (.lookup T x y false) ty pos after g) fr ds w K Q:=by
 obtain ⟨Fa,ya⟩:=Ph fr dst (Tj es (mb.key k) (.pointer none));refine QB a d e f (mb.Se k) i j he.vf.keys ya ?_;exact h _ (he.vf.oD hrv k) Fa ya
theorem Ku {aa:TypeId}{z:Value}(h:(P.info? aa).map (fun i=>i.zero)=some (some z)):∀ w,(zeroValue aa).run P w=.ok z w:=fun w=>by
 cases a:P.info? aa with
 | none=>rw [a] at h; cases h
 | some i =>
  rw [a] at h;simp only [Option.map_some,Option.some.injEq] at h;simp [zeroValue,typeInfo,a,h]
theorem Lp {x y z:Operand}{Se aa:TypeId}{v:Value}{b c k:Nat}{es:List MapEntry}{kk:κ}{m:List (κ×β)}{xx:β}(d:P.underlying T=some (.map Se aa)) (e:P.underlying Se=some (mb.bg (κ:=κ))) (f:zb fr x (.map (some b))) (i:zb fr y (mb.key kk)) (j:zb fr z v) (Ab:hh.Ni μ v xx)
  (l:ka μ J w rs) (qa:hc rs k (.map b es c)) (he:xe μ es c m)
  (ya:Vf fr dst undef Fa) (h:∀ a Db w' Lc,xe μ a Db (Fc m kk xx)→Hc rs k (.map b a Db) Lc→ka μ J w' Lc→K Fa ds w'):De P (Oper.mk dst (.mapUpdate T x y z) ty pos after g) fr ds w K Q :=
 uC d e f i (mb.Se kk) j l qa he.vf.keys ya fun w' Lc=>h _ _ w' Lc (he.put kk Ab)
theorem Lk {x y z:Operand}{Se aa:TypeId}{v:Value}{b c k:Nat}{es:List MapEntry}{kk:κ}{m:List (κ×β)}{xx:β}(d:P.underlying T=some (.map Se aa)) (e:P.underlying Se=some (mb.bg (κ:=κ))) (f:zb fr x (.map (some b))) (i:zb fr y (mb.key kk)) (j:zb fr z v) (Ab:hh.Ni μ v xx)
  (l:ka μ J w rs) (qa:hc rs k (.map b es c)) (he:xe μ es c m)
  (ya:Vf fr dst undef Fa) (h:∀ a Db w' Lc,xe μ a Db (Fc m kk xx)→Hc rs k (.map b a Db) Lc→ka μ J w' Lc→K Fa ds w'):De P (Oper.mk dst (.insert T x y z) ty pos after g) fr ds w K Q :=
 ⟨fun n o=>(Lp (dst:=dst) (ty:=ty) (pos:=pos) (after:=after) (g:=g) d e f i j Ab l qa he ya h).out n o⟩
theorem vC {x:Operand}{Se aa:TypeId}{b c:Nat}{es:List MapEntry}{m:List (κ×β)}(a:P.underlying T=some (.map Se aa)) (d:zb fr x (.map (some b))) (e:w.heap[b]?=some (.map ⟨es⟩ c)) (he:xe μ es c m)
  (f:Vf fr dst (.int .i64 m.length) Fa) (h:K Fa ds w):De P (Oper.mk dst (.call { callee:=.builtin .len,args:=#[x],argTypes:=#[T] }) ty pos after g) fr ds w K Q:=by
 refine sh (w':=w) ?_ f h;have:=he.vf.len;simp [execOp,resolve,invoke,builtin,Builtin.len_,goInt,d ds,run_underlying a,getObj,Sem.run,e,Result.andThen,this]
end
end Go.sd
namespace Go.oc
abbrev Dh (m:List mb):List mb:=.k::m
abbrev Ad (s:Nat) (m:List mb):List mb:=.o s::m
theorem yf {m:List mb}{a0:Value}{l Ha:List Value}(h:Ee m l Ha):Ee (Dh m) (a0::l) (a0::Ha):=(.k h)
theorem Xa {m:List mb}{s:Nat}{a0 a:Value}{l Ha:List Value}(h:Ee m l Ha):Ee (Ad s m) (a0::l) (a::Ha):=(.o h)
theorem Uh {t:Nat→Value}{m:List mb}{a0:Value}{l Ha:List Value}(h:Re t m l Ha):Re t (Dh m) (a0::l) (a0::Ha):=(mk h)
theorem Cd {t:Nat→Value}{m:List mb}{s:Nat}{a0:Value}{l Ha:List Value}(h:Re t m l Ha):Re t (Ad s m) (a0::l) (t s::Ha):=(cc h)
abbrev Kf (m:List mb):List mb:=.k::.k::m
abbrev Rf (s:Nat) (m:List mb):List mb:=.o s::.o (s+1)::m
theorem Zb {m:List mb}{a0 ta:Value}{l Ha:List Value}(h:Ee m l Ha):Ee (Kf m) (a0::ta::l) (a0::ta::Ha):=(.k (.k h))
theorem cd {m:List mb}{s:Nat}{a0 ta a V:Value}{l Ha:List Value}(h:Ee m l Ha):Ee (Rf s m) (a0::ta::l) (a::V::Ha):=(.o (.o h))
theorem Qf {t:Nat→Value}{m:List mb}{a0 ta:Value}{l Ha:List Value}(h:Re t m l Ha):Re t (Kf m) (a0::ta::l) (a0::ta::Ha):=(mk (mk h))
theorem cg {t:Nat→Value}{m:List mb}{s:Nat}{a0 ta:Value}{l Ha:List Value}(h:Re t m l Ha):Re t (Rf s m) (a0::ta::l) (t s::t (s+1)::Ha):=(cc (cc h))
abbrev Qg (m:List mb):List mb:=.k::.k::.k::m
abbrev Cj (s:Nat) (m:List mb):List mb:=.o s::.o (s+1)::.o (s+2)::m
theorem Pd {m:List mb}{a0 ta a2:Value}{l Ha:List Value}(h:Ee m l Ha):Ee (Qg m) (a0::ta::a2::l) (a0::ta::a2::Ha):=(.k (.k (.k h)))
theorem Ng {m:List mb}{s:Nat}{a0 ta a2 a V Ed:Value}{l Ha:List Value}(h:Ee m l Ha):Ee (Cj s m) (a0::ta::a2::l) (a::V::Ed::Ha):=(.o (.o (.o h)))
theorem ah {t:Nat→Value}{m:List mb}{a0 ta a2:Value}{l Ha:List Value}(h:Re t m l Ha):Re t (Qg m) (a0::ta::a2::l) (a0::ta::a2::Ha):=(mk (mk (mk h)))
theorem Fk {t:Nat→Value}{m:List mb}{s:Nat}{a0 ta a2:Value}{l Ha:List Value}(h:Re t m l Ha):Re t (Cj s m) (a0::ta::a2::l) (t s::t (s+1)::t (s+2)::Ha):=(cc (cc (cc h)))
abbrev pg (m:List mb):List mb:=.k::.k::.k::.k::m
abbrev wi (s:Nat) (m:List mb):List mb:=.o s::.o (s+1)::.o (s+2)::.o (s+3)::m
theorem dd {m:List mb}{a0 ta a2 a3:Value}{l Ha:List Value}(h:Ee m l Ha):Ee (pg m) (a0::ta::a2::a3::l) (a0::ta::a2::a3::Ha):=(.k (.k (.k (.k h))))
theorem Pe {m:List mb}{s:Nat}{a0 ta a2 a3 a V Ed Ta:Value}{l Ha:List Value}(h:Ee m l Ha):Ee (wi s m) (a0::ta::a2::a3::l) (a::V::Ed::Ta::Ha):=(.o (.o (.o (.o h))))
theorem yg {t:Nat→Value}{m:List mb}{a0 ta a2 a3:Value}{l Ha:List Value}(h:Re t m l Ha):Re t (pg m) (a0::ta::a2::a3::l) (a0::ta::a2::a3::Ha):=(mk (mk (mk (mk h))))
theorem Zi {t:Nat→Value}{m:List mb}{s:Nat}{a0 ta a2 a3:Value}{l Ha:List Value}(h:Re t m l Ha):Re t (wi s m) (a0::ta::a2::a3::l) (t s::t (s+1)::t (s+2)::t (s+3)::Ha):=(cc (cc (cc (cc h))))
abbrev Cg (m:List mb):List mb:=.k::.k::.k::.k::.k::m
abbrev Wm (s:Nat) (m:List mb):List mb:=.o s::.o (s+1)::.o (s+2)::.o (s+3)::.o (s+4)::m
theorem pe {m:List mb}{a0 ta a2 a3 a4:Value}{l Ha:List Value}(h:Ee m l Ha):Ee (Cg m) (a0::ta::a2::a3::a4::l) (a0::ta::a2::a3::a4::Ha):=(.k (.k (.k (.k (.k h)))))
theorem oj {m:List mb}{s:Nat}{a0 ta a2 a3 a4 a V Ed Ta fg:Value}{l Ha:List Value}(h:Ee m l Ha):Ee (Wm s m) (a0::ta::a2::a3::a4::l) (a::V::Ed::Ta::fg::Ha):=(.o (.o (.o (.o (.o h)))))
theorem Og {t:Nat→Value}{m:List mb}{a0 ta a2 a3 a4:Value}{l Ha:List Value}(h:Re t m l Ha):Re t (Cg m) (a0::ta::a2::a3::a4::l) (a0::ta::a2::a3::a4::Ha):=(mk (mk (mk (mk (mk h)))))
theorem Oo {t:Nat→Value}{m:List mb}{s:Nat}{a0 ta a2 a3 a4:Value}{l Ha:List Value}(h:Re t m l Ha):Re t (Wm s m) (a0::ta::a2::a3::a4::l) (t s::t (s+1)::t (s+2)::t (s+3)::t (s+4)::Ha):=(cc (cc (cc (cc (cc h)))))
abbrev wh (m:List mb):List mb:=.k::.k::.k::.k::.k::.k::m
abbrev pj (s:Nat) (m:List mb):List mb:=.o s::.o (s+1)::.o (s+2)::.o (s+3)::.o (s+4)::.o (s+5)::m
theorem Ie {m:List mb}{a0 ta a2 a3 a4 a5:Value}{l Ha:List Value}(h:Ee m l Ha):Ee (wh m) (a0::ta::a2::a3::a4::a5::l) (a0::ta::a2::a3::a4::a5::Ha):=(.k (.k (.k (.k (.k (.k h))))))
theorem qg {m:List mb}{s:Nat}{a0 ta a2 a3 a4 a5 a V Ed Ta fg Ef:Value}{l Ha:List Value}(h:Ee m l Ha):Ee (pj s m) (a0::ta::a2::a3::a4::a5::l) (a::V::Ed::Ta::fg::Ef::Ha):=(.o (.o (.o (.o (.o (.o h))))))
theorem Kh {t:Nat→Value}{m:List mb}{a0 ta a2 a3 a4 a5:Value}{l Ha:List Value}(h:Re t m l Ha):Re t (wh m) (a0::ta::a2::a3::a4::a5::l) (a0::ta::a2::a3::a4::a5::Ha):=(mk (mk (mk (mk (mk (mk h))))))
theorem Zj {t:Nat→Value}{m:List mb}{s:Nat}{a0 ta a2 a3 a4 a5:Value}{l Ha:List Value}(h:Re t m l Ha):Re t (pj s m) (a0::ta::a2::a3::a4::a5::l) (t s::t (s+1)::t (s+2)::t (s+3)::t (s+4)::t (s+5)::Ha):=(cc (cc (cc (cc (cc (cc h))))))
abbrev ai (m:List mb):List mb:=.k::.k::.k::.k::.k::.k::.k::m
abbrev Wk (s:Nat) (m:List mb):List mb:=.o s::.o (s+1)::.o (s+2)::.o (s+3)::.o (s+4)::.o (s+5)::.o (s+6)::m
theorem Sf {m:List mb}{a0 ta a2 a3 a4 a5 Nb:Value}{l Ha:List Value}(h:Ee m l Ha):Ee (ai m) (a0::ta::a2::a3::a4::a5::Nb::l) (a0::ta::a2::a3::a4::a5::Nb::Ha):=(.k (.k (.k (.k (.k (.k (.k h)))))))
theorem eh {m:List mb}{s:Nat}{a0 ta a2 a3 a4 a5 Nb a V Ed Ta fg Ef Af:Value}{l Ha:List Value}(h:Ee m l Ha):Ee (Wk s m) (a0::ta::a2::a3::a4::a5::Nb::l) (a::V::Ed::Ta::fg::Ef::Af::Ha):=(.o (.o (.o (.o (.o (.o (.o h)))))))
theorem xi {t:Nat→Value}{m:List mb}{a0 ta a2 a3 a4 a5 Nb:Value}{l Ha:List Value}(h:Re t m l Ha):Re t (ai m) (a0::ta::a2::a3::a4::a5::Nb::l) (a0::ta::a2::a3::a4::a5::Nb::Ha):=(mk (mk (mk (mk (mk (mk (mk h)))))))
theorem Ul {t:Nat→Value}{m:List mb}{s:Nat}{a0 ta a2 a3 a4 a5 Nb:Value}{l Ha:List Value}(h:Re t m l Ha):Re t (Wk s m) (a0::ta::a2::a3::a4::a5::Nb::l) (t s::t (s+1)::t (s+2)::t (s+3)::t (s+4)::t (s+5)::t (s+6)::Ha):=(cc (cc (cc (cc (cc (cc (cc h)))))))
abbrev aj (m:List mb):List mb:=.k::.k::.k::.k::.k::.k::.k::.k::m
abbrev qj (s:Nat) (m:List mb):List mb:=.o s::.o (s+1)::.o (s+2)::.o (s+3)::.o (s+4)::.o (s+5)::.o (s+6)::.o (s+7)::m
theorem Dg {m:List mb}{a0 ta a2 a3 a4 a5 Nb zc:Value}{l Ha:List Value}(h:Ee m l Ha):Ee (aj m) (a0::ta::a2::a3::a4::a5::Nb::zc::l) (a0::ta::a2::a3::a4::a5::Nb::zc::Ha):=(.k (.k (.k (.k (.k (.k (.k (.k h))))))))
theorem Gg {m:List mb}{s:Nat}{a0 ta a2 a3 a4 a5 Nb zc a V Ed Ta fg Ef Af zf:Value}{l Ha:List Value}(h:Ee m l Ha):Ee (qj s m) (a0::ta::a2::a3::a4::a5::Nb::zc::l) (a::V::Ed::Ta::fg::Ef::Af::zf::Ha):=(.o (.o (.o (.o (.o (.o (.o (.o h))))))))
theorem Dj {t:Nat→Value}{m:List mb}{a0 ta a2 a3 a4 a5 Nb zc:Value}{l Ha:List Value}(h:Re t m l Ha):Re t (aj m) (a0::ta::a2::a3::a4::a5::Nb::zc::l) (a0::ta::a2::a3::a4::a5::Nb::zc::Ha):=(mk (mk (mk (mk (mk (mk (mk (mk h))))))))
theorem ak {t:Nat→Value}{m:List mb}{s:Nat}{a0 ta a2 a3 a4 a5 Nb zc:Value}{l Ha:List Value}(h:Re t m l Ha):Re t (qj s m) (a0::ta::a2::a3::a4::a5::Nb::zc::l) (t s::t (s+1)::t (s+2)::t (s+3)::t (s+4)::t (s+5)::t (s+6)::t (s+7)::Ha):=(cc (cc (cc (cc (cc (cc (cc (cc h))))))))
abbrev Lh (m:List mb):List mb:=.k::.k::.k::.k::.k::.k::.k::.k::.k::m
abbrev Xk (s:Nat) (m:List mb):List mb:=.o s::.o (s+1)::.o (s+2)::.o (s+3)::.o (s+4)::.o (s+5)::.o (s+6)::.o (s+7)::.o (s+8)::m
theorem tf {m:List mb}{a0 ta a2 a3 a4 a5 Nb zc Mb:Value}{l Ha:List Value}(h:Ee m l Ha):Ee (Lh m) (a0::ta::a2::a3::a4::a5::Nb::zc::Mb::l) (a0::ta::a2::a3::a4::a5::Nb::zc::Mb::Ha):=(.k (.k (.k (.k (.k (.k (.k (.k (.k h)))))))))
theorem fh {m:List mb}{s:Nat}{a0 ta a2 a3 a4 a5 Nb zc Mb a V Ed Ta fg Ef Af zf ef:Value}{l Ha:List Value}(h:Ee m l Ha):Ee (Xk s m) (a0::ta::a2::a3::a4::a5::Nb::zc::Mb::l) (a::V::Ed::Ta::fg::Ef::Af::zf::ef::Ha):=(.o (.o (.o (.o (.o (.o (.o (.o (.o h)))))))))
theorem di {t:Nat→Value}{m:List mb}{a0 ta a2 a3 a4 a5 Nb zc Mb:Value}{l Ha:List Value}(h:Re t m l Ha):Re t (Lh m) (a0::ta::a2::a3::a4::a5::Nb::zc::Mb::l) (a0::ta::a2::a3::a4::a5::Nb::zc::Mb::Ha):=(mk (mk (mk (mk (mk (mk (mk (mk (mk h)))))))))
theorem Vl {t:Nat→Value}{m:List mb}{s:Nat}{a0 ta a2 a3 a4 a5 Nb zc Mb:Value}{l Ha:List Value}(h:Re t m l Ha):Re t (Xk s m) (a0::ta::a2::a3::a4::a5::Nb::zc::Mb::l) (t s::t (s+1)::t (s+2)::t (s+3)::t (s+4)::t (s+5)::t (s+6)::t (s+7)::t (s+8)::Ha):=(cc (cc (cc (cc (cc (cc (cc (cc (cc h)))))))))
abbrev Xd (m:List mb):List mb:=.k::.k::.k::.k::.k::.k::.k::.k::.k::.k::m
abbrev Bd (s:Nat) (m:List mb):List mb:=.o s::.o (s+1)::.o (s+2)::.o (s+3)::.o (s+4)::.o (s+5)::.o (s+6)::.o (s+7)::.o (s+8)::.o (s+9)::m
theorem Cb {m:List mb}{a0 ta a2 a3 a4 a5 Nb zc Mb a9:Value}{l Ha:List Value}(h:Ee m l Ha):Ee (Xd m) (a0::ta::a2::a3::a4::a5::Nb::zc::Mb::a9::l) (a0::ta::a2::a3::a4::a5::Nb::zc::Mb::a9::Ha):=(.k (.k (.k (.k (.k (.k (.k (.k (.k (.k h))))))))))
theorem ob {m:List mb}{s:Nat}{a0 ta a2 a3 a4 a5 Nb zc Mb a9 a V Ed Ta fg Ef Af zf ef Yc:Value}{l Ha:List Value}(h:Ee m l Ha):Ee (Bd s m) (a0::ta::a2::a3::a4::a5::Nb::zc::Mb::a9::l) (a::V::Ed::Ta::fg::Ef::Af::zf::ef::Yc::Ha):=(.o (.o (.o (.o (.o (.o (.o (.o (.o (.o h))))))))))
theorem ee {t:Nat→Value}{m:List mb}{a0 ta a2 a3 a4 a5 Nb zc Mb a9:Value}{l Ha:List Value}(h:Re t m l Ha):Re t (Xd m) (a0::ta::a2::a3::a4::a5::Nb::zc::Mb::a9::l) (a0::ta::a2::a3::a4::a5::Nb::zc::Mb::a9::Ha):=(mk (mk (mk (mk (mk (mk (mk (mk (mk (mk h))))))))))
theorem Hd {t:Nat→Value}{m:List mb}{s:Nat}{a0 ta a2 a3 a4 a5 Nb zc Mb a9:Value}{l Ha:List Value}(h:Re t m l Ha):Re t (Bd s m) (a0::ta::a2::a3::a4::a5::Nb::zc::Mb::a9::l) (t s::t (s+1)::t (s+2)::t (s+3)::t (s+4)::t (s+5)::t (s+6)::t (s+7)::t (s+8)::t (s+9)::Ha):=(cc (cc (cc (cc (cc (cc (cc (cc (cc (cc h))))))))))
abbrev Xc (m:List mb):List mb:=.k::.k::.k::.k::.k::.k::.k::.k::.k::.k::.k::.k::.k::.k::.k::.k::.k::.k::.k::.k::m
abbrev Pf (s:Nat) (m:List mb):List mb:=.o s::.o (s+1)::.o (s+2)::.o (s+3)::.o (s+4)::.o (s+5)::.o (s+6)::.o (s+7)::.o (s+8)::.o (s+9)::.o (s+10)::.o (s+11)::.o (s+12)::.o (s+13)::.o (s+14)::.o (s+15)::.o (s+16)::.o (s+17)::.o (s+18)::.o (s+19)::m
theorem hb {m:List mb}{a0 ta a2 a3 a4 a5 Nb zc Mb a9 Be qc a12 a ec ie b Vc c d:Value}{l Ha:List Value}(h:Ee m l Ha):Ee (Xc m) (a0::ta::a2::a3::a4::a5::Nb::zc::Mb::a9::Be::qc::a12::a::ec::ie::b::Vc::c::d::l) (a0::ta::a2::a3::a4::a5::Nb::zc::Mb::a9::Be::qc::a12::a::ec::ie::b::Vc::c::d::Ha):=(.k (.k (.k (.k (.k (.k (.k (.k (.k (.k (.k (.k (.k (.k (.k (.k (.k (.k (.k (.k h))))))))))))))))))))
theorem Hb {m:List mb}{s:Nat}{a0 ta a2 a3 a4 a5 Nb zc Mb a9 Be qc a12 a ec ie b Vc c d e V Ed Ta fg Ef Af zf ef Yc yi f ed zi g i j k n nd:Value}{l Ha:List Value}(h:Ee m l Ha):Ee (Pf s m) (a0::ta::a2::a3::a4::a5::Nb::zc::Mb::a9::Be::qc::a12::a::ec::ie::b::Vc::c::d::l) (e::V::Ed::Ta::fg::Ef::Af::zf::ef::Yc::yi::f::ed::zi::g::i::j::k::n::nd::Ha):=(.o (.o (.o (.o (.o (.o (.o (.o (.o (.o (.o (.o (.o (.o (.o (.o (.o (.o (.o (.o h))))))))))))))))))))
theorem bd {t:Nat→Value}{m:List mb}{a0 ta a2 a3 a4 a5 Nb zc Mb a9 Be qc a12 a ec ie b Vc c d:Value}{l Ha:List Value}(h:Re t m l Ha):Re t (Xc m) (a0::ta::a2::a3::a4::a5::Nb::zc::Mb::a9::Be::qc::a12::a::ec::ie::b::Vc::c::d::l) (a0::ta::a2::a3::a4::a5::Nb::zc::Mb::a9::Be::qc::a12::a::ec::ie::b::Vc::c::d::Ha):=(mk (mk (mk (mk (mk (mk (mk (mk (mk (mk (mk (mk (mk (mk (mk (mk (mk (mk (mk (mk h))))))))))))))))))))
theorem Xf {t:Nat→Value}{m:List mb}{s:Nat}{a0 ta a2 a3 a4 a5 Nb zc Mb a9 Be qc a12 a ec ie b Vc c d:Value}{l Ha:List Value}(h:Re t m l Ha):Re t (Pf s m) (a0::ta::a2::a3::a4::a5::Nb::zc::Mb::a9::Be::qc::a12::a::ec::ie::b::Vc::c::d::l) (t s::t (s+1)::t (s+2)::t (s+3)::t (s+4)::t (s+5)::t (s+6)::t (s+7)::t (s+8)::t (s+9)::t (s+10)::t (s+11)::t (s+12)::t (s+13)::t (s+14)::t (s+15)::t (s+16)::t (s+17)::t (s+18)::t (s+19)::Ha):=(cc (cc (cc (cc (cc (cc (cc (cc (cc (cc (cc (cc (cc (cc (cc (cc (cc (cc (cc (cc h))))))))))))))))))))
abbrev jd (m:List mb):List mb:=.k::.k::.k::.k::.k::.k::.k::.k::.k::.k::.k::.k::.k::.k::.k::.k::.k::.k::.k::.k::.k::.k::.k::.k::.k::.k::.k::.k::.k::.k::.k::.k::.k::.k::.k::.k::.k::.k::.k::.k::.k::.k::.k::.k::.k::.k::.k::.k::.k::.k::m
abbrev zj (s:Nat) (m:List mb):List mb:=.o s::.o (s+1)::.o (s+2)::.o (s+3)::.o (s+4)::.o (s+5)::.o (s+6)::.o (s+7)::.o (s+8)::.o (s+9)::.o (s+10)::.o (s+11)::.o (s+12)::.o (s+13)::.o (s+14)::.o (s+15)::.o (s+16)::.o (s+17)::.o (s+18)::.o (s+19)::.o (s+20)::.o (s+21)::.o (s+22)::.o (s+23)::.o (s+24)::.o (s+25)::.o (s+26)::.o (s+27)::.o (s+28)::.o (s+29)::.o (s+30)::.o (s+31)::.o (s+32)::.o (s+33)::.o (s+34)::.o (s+35)::.o (s+36)::.o (s+37)::.o (s+38)::.o (s+39)::.o (s+40)::.o (s+41)::.o (s+42)::.o (s+43)::.o (s+44)::.o (s+45)::.o (s+46)::.o (s+47)::.o (s+48)::.o (s+49)::m
theorem qb {m:List mb}{a0 ta a2 a3 a4 a5 Nb zc Mb a9 Be qc a12 a ec ie b Vc c d a20 a21 a22 a23 a24 a25 a26 e a28 f g a31 i j n o p a37 q r a40 s t u v w a46 x y a49:Value}{l Ha:List Value}(h:Ee m l Ha):Ee (jd m) (a0::ta::a2::a3::a4::a5::Nb::zc::Mb::a9::Be::qc::a12::a::ec::ie::b::Vc::c::d::a20::a21::a22::a23::a24::a25::a26::e::a28::f::g::a31::i::j::n::o::p::a37::q::r::a40::s::t::u::v::w::a46::x::y::a49::l) (a0::ta::a2::a3::a4::a5::Nb::zc::Mb::a9::Be::qc::a12::a::ec::ie::b::Vc::c::d::a20::a21::a22::a23::a24::a25::a26::e::a28::f::g::a31::i::j::n::o::p::a37::q::r::a40::s::t::u::v::w::a46::x::y::a49::Ha):=(.k (.k (.k (.k (.k (.k (.k (.k (.k (.k (.k (.k (.k (.k (.k (.k (.k (.k (.k (.k (.k (.k (.k (.k (.k (.k (.k (.k (.k (.k (.k (.k (.k (.k (.k (.k (.k (.k (.k (.k (.k (.k (.k (.k (.k (.k (.k (.k (.k (.k h))))))))))))))))))))))))))))))))))))))))))))))))))
theorem Oc {m:List mb}{s:Nat}{a0 ta a2 a3 a4 a5 Nb zc Mb a9 Be qc a12 a ec ie b Vc c d a20 a21 a22 a23 a24 a25 a26 e a28 f g a31 i j k n p a37 q r a40 t u v w x a46 y z a49 A V Ed Ta fg Ef Af zf ef Yc yi B ed zi C D E F G nd H K L M N P Q R S T U W X Y Z gc lc rc fd id md rd td wd Fd Id be ce ge he:Value}{l Ha:List Value}(h:Ee m l Ha):Ee (zj s m) (a0::ta::a2::a3::a4::a5::Nb::zc::Mb::a9::Be::qc::a12::a::ec::ie::b::Vc::c::d::a20::a21::a22::a23::a24::a25::a26::e::a28::f::g::a31::i::j::k::n::p::a37::q::r::a40::t::u::v::w::x::a46::y::z::a49::l) (A::V::Ed::Ta::fg::Ef::Af::zf::ef::Yc::yi::B::ed::zi::C::D::E::F::G::nd::H::K::L::M::N::P::Q::R::S::T::U::W::X::Y::Z::gc::lc::rc::fd::id::md::rd::td::wd::Fd::Id::be::ce::ge::he::Ha):=(.o (.o (.o (.o (.o (.o (.o (.o (.o (.o (.o (.o (.o (.o (.o (.o (.o (.o (.o (.o (.o (.o (.o (.o (.o (.o (.o (.o (.o (.o (.o (.o (.o (.o (.o (.o (.o (.o (.o (.o (.o (.o (.o (.o (.o (.o (.o (.o (.o (.o h))))))))))))))))))))))))))))))))))))))))))))))))))
theorem kd {t:Nat→Value}{m:List mb}{a0 ta a2 a3 a4 a5 Nb zc Mb a9 Be qc a12 a ec ie b Vc c d a20 a21 a22 a23 a24 a25 a26 e a28 f g a31 i j k n o a37 p q a40 r s u v w a46 x y a49:Value}{l Ha:List Value}(h:Re t m l Ha):Re t (jd m) (a0::ta::a2::a3::a4::a5::Nb::zc::Mb::a9::Be::qc::a12::a::ec::ie::b::Vc::c::d::a20::a21::a22::a23::a24::a25::a26::e::a28::f::g::a31::i::j::k::n::o::a37::p::q::a40::r::s::u::v::w::a46::x::y::a49::l) (a0::ta::a2::a3::a4::a5::Nb::zc::Mb::a9::Be::qc::a12::a::ec::ie::b::Vc::c::d::a20::a21::a22::a23::a24::a25::a26::e::a28::f::g::a31::i::j::k::n::o::a37::p::q::a40::r::s::u::v::w::a46::x::y::a49::Ha):=(mk (mk (mk (mk (mk (mk (mk (mk (mk (mk (mk (mk (mk (mk (mk (mk (mk (mk (mk (mk (mk (mk (mk (mk (mk (mk (mk (mk (mk (mk (mk (mk (mk (mk (mk (mk (mk (mk (mk (mk (mk (mk (mk (mk (mk (mk (mk (mk (mk (mk h))))))))))))))))))))))))))))))))))))))))))))))))))
theorem zk {t:Nat→Value}{m:List mb}{s:Nat}{a0 ta a2 a3 a4 a5 Nb zc Mb a9 Be qc a12 a ec ie b Vc c d a20 a21 a22 a23 a24 a25 a26 e a28 f g a31 i j k n o a37 p q a40 r u v w x a46 y z a49:Value}{l Ha:List Value}(h:Re t m l Ha):Re t (zj s m) (a0::ta::a2::a3::a4::a5::Nb::zc::Mb::a9::Be::qc::a12::a::ec::ie::b::Vc::c::d::a20::a21::a22::a23::a24::a25::a26::e::a28::f::g::a31::i::j::k::n::o::a37::p::q::a40::r::u::v::w::x::a46::y::z::a49::l) (t s::t (s+1)::t (s+2)::t (s+3)::t (s+4)::t (s+5)::t (s+6)::t (s+7)::t (s+8)::t (s+9)::t (s+10)::t (s+11)::t (s+12)::t (s+13)::t (s+14)::t (s+15)::t (s+16)::t (s+17)::t (s+18)::t (s+19)::t (s+20)::t (s+21)::t (s+22)::t (s+23)::t (s+24)::t (s+25)::t (s+26)::t (s+27)::t (s+28)::t (s+29)::t (s+30)::t (s+31)::t (s+32)::t (s+33)::t (s+34)::t (s+35)::t (s+36)::t (s+37)::t (s+38)::t (s+39)::t (s+40)::t (s+41)::t (s+42)::t (s+43)::t (s+44)::t (s+45)::t (s+46)::t (s+47)::t (s+48)::t (s+49)::Ha):=(cc (cc (cc (cc (cc (cc (cc (cc (cc (cc (cc (cc (cc (cc (cc (cc (cc (cc (cc (cc (cc (cc (cc (cc (cc (cc (cc (cc (cc (cc (cc (cc (cc (cc (cc (cc (cc (cc (cc (cc (cc (cc (cc (cc (cc (cc (cc (cc (cc (cc h))))))))))))))))))))))))))))))))))))))))))))))))))
theorem Da {m:List mb}{v a:Value}{l Ha:List Value}(h:Ee m l Ha):Ee (.i v::m) (a::l) (v::Ha):=.i h
theorem sa {l:List Value}:Ee [] l l:=.z
end Go.oc
namespace Go.oc
open Go.RowKit
section
variable {P:Program}{Q:Exit→Act→World→Prop}{ops:Array Oper}{fr Fa:List Value}{ds:List Deferred}{w:World}
theorem Hv (ops:Array Oper) (fr:List Value) (ds:List Deferred) (j:Nat):yielded ops (F fr ds).tmps j=match (ops[j]?).bind (·.dst) with | some s=>(match (F fr ds).eval (.tmp s) with | .bool b=>some b | _=>none) | none=>none:=by
 unfold yielded;cases h:(ops[j]?).bind (·.dst) with
 | none=>simp
 | some s =>
  simp only [Option.bind_some,F,Act.eval];cases a:(⟨fr⟩:Array Value)[s]? with
  | none =>
   have:(⟨fr⟩:Array Value).getD s undef=undef:=by simp [Array.getD_eq_getD_getElem?,a]
   first
    | (simp [a,undef]; done)
    | (rw [this]; simp [undef])
  | some v =>
   have:(⟨fr⟩:Array Value).getD s undef=v:=by simp [Array.getD_eq_getD_getElem?,a]
   first
    | (simp [a]; done)
    | (rw [this]; cases v <;> rfl)
theorem wanted_put {o p:Oper}{fr:List Value}{ds ds':List Deferred}{g:List Value→List Value}(g3:∀ (y:Operand),(∀ e,p.dst=some e→Mq y≠some e)→(F (g fr) ds).eval y=(F fr ds).eval y) (c:∀ e,p.dst=some e→(reads ops o).contains e=false) :
  Region.wanted o (yielded ops (F (g fr) ds').tmps)=Region.wanted o (yielded ops (F fr ds').tmps):=by
 have Va:(F (g fr) ds').tmps=(F (g fr) ds).tmps:=rfl;have na:(F fr ds').tmps=(F fr ds).tmps:=rfl;rw [Va,na];unfold Region.wanted;cases d:o.guard with
 | none=>rfl
 | some f =>
  obtain ⟨j,b⟩:=f;simp only;have:yielded ops (F (g fr) ds).tmps j=yielded ops (F fr ds).tmps j:=by
   rw [Hv,Hv];cases hs:(ops[j]?).bind (·.dst) with
   | none=>rfl
   | some s =>
    simp only;rw [g3 (.tmp s) fun e he a=>by
     simp [Mq] at a;subst a;have:=c s he;unfold reads at this;rw [d] at this;simp [hs] at this]
  first
   | rw [this]
   | simp [this]
theorem AB {o:Oper}{j d:Nat}{b Ke:Bool}(a:o.guard=some (j,b)) (c:(ops[j]?).bind (·.dst)=some d) (qa:hc fr d (.bool Ke)):Region.wanted o (yielded ops (F fr ds).tmps)=(Ke == b):=by
 unfold Region.wanted;rw [a];simp only;have:yielded ops (F fr ds).tmps j=some Ke:=by
  rw [Hv,c];simp only;rw [aa qa ds]
 rw [this];cases b<;>cases Ke<;>rfl
theorem iG {o:Oper}{j d:Nat}{b:Bool}(a:o.guard=some (j,b)) (c:(ops[j]?).bind (·.dst)=some d) (qa:hc fr d undef):Region.wanted o (yielded ops (F fr ds).tmps)=false:=by
 unfold Region.wanted;rw [a];simp only;have:yielded ops (F fr ds).tmps j=none:=by
  rw [Hv,c];simp only;rw [aa qa ds];rfl
 rw [this];rfl
theorem Vb {o:Oper}(a:o.guard=none):Region.wanted o (yielded ops (F fr ds).tmps)=true:=by simp [Region.wanted,a]
theorem qy {o:Oper}{j d:Nat}{b:Bool}(a:o.guard=some (j,b)) (c:(ops[j]?).bind (·.dst)=some d) (qa:hc fr d (.bool b)):Region.wanted o (yielded ops (F fr ds).tmps)=true :=
 (AB a c qa).trans (by cases b<;>rfl)
end
end Go.oc
namespace Go.oc
open Go.RowKit
section
variable {P:Program}{Q:Exit→Act→World→Prop}{ops:Array Oper}{fr Fa:List Value}{ds:List Deferred}{w:World}
def waits (ops:Array Oper) (R S:List Nat) (i:Nat):Bool:=S.all fun j=>j == i || S.any fun k=>(Sl ops j).contains k && R.contains k
theorem Ml.later {R d:List Nat}(h:Ml ops R d) (m:R.Nodup){i:Nat}{S:List Nat}(n:∀ j ∈ S,j=i∨∃ k ∈ S,k ∈ Sl ops j∧k ∈ R):∀ a c,d=a++i::c→i ∉ a→∀ j ∈ a,j ∉ S:=by
 induction h with
 | z=>intro a c h; simp at h
 | @s R d k p t r =>
  intro a c h o j b;cases a with
  | nil=>cases b
  | cons e a =>
   simp only [List.cons_append,List.cons.injEq] at h;obtain ⟨rfl,h⟩:=h;have he:k ∉ S:=fun hm=>by
    rcases n k hm with rfl | ⟨q,f,g,l⟩
    ·exact o (by simp)
    ·exact lA p g l
   rcases List.mem_cons.1 b with rfl | b
   ·exact he
   ·refine r (m.erase k) (fun j b=>?_) a c h (fun hm=>o (by simp [hm])) j b;rcases n j b with rfl | ⟨q,f,g,l⟩
    ·exact .inl rfl
    ·exact .inr ⟨q,f,g,(m.mem_erase_iff).2 ⟨fun e=>he (e ▸ f),l⟩⟩
end
end Go.oc
namespace Go.oc
open Go.RowKit
section
variable {P:Program}{Q:Exit→Act→World→Prop}{K:List Value→List Deferred→World→Prop}{fr Fa:List Value}{ds:List Deferred}{w:World}
variable {dst:Option Tmp}{ty:TypeId}{pos:String}{after:Array Edge}{g:Option (Nat×Bool)}
variable {S Jd:Nat→Prop}{J:World}{rs Lc:List dc}{A:World→Prop}
variable {T:TypeId}{d:TypeDesc}{ag:Bool}{Vd:List Value}{n m:Nat}
inductive Us (fr:List Value) (n:Nat):Nat→List (Nat×Operand)→List Value→Prop where
 | z {i:Nat}:Us fr n i [] []
 | s {i:Nat} {x:Operand} {v:Value} {cs rest:List Value} {xs:List (Nat×Operand)} (a:zb fr x v) (Ab:v.cells=⟨cs⟩) (b:cs.length=n) (t:Us fr n (i+1) xs rest):Us fr n i ((i,x)::xs) (cs++rest)
theorem Us.fill {i:Nat}{xs:List (Nat×Operand)}{cells:List Value}(h:Us fr n i xs cells):∀ a:List Value,a.length=i*n+cells.length →
  Instr.fill (fun i=>some (i*n,n)) ⟨a⟩ (xs.map fun p=>(p.1,(F fr ds).eval p.2))=some ⟨a.take (i*n)++cells⟩:=by
 induction h with
 | z=>intro a b; simp at b; simp [Instr.fill,← b]
 | @s i x v cs rest xs f Ab c t g =>
  intro a b;simp only [List.length_append] at b;have d:(i+1)*n=i*n+n:=by rw [Nat.add_mul,Nat.one_mul]
  simp only [List.map_cons,Instr.fill,f ds,Ab];have Va:¬ (((⟨cs⟩:Array Value).size≠n || i*n+(⟨cs⟩:Array Value).size > (⟨a⟩:Array Value).size)=true):=by simp [c,b]
  rw [if_neg Va];have j:=Gv cs (i*n) 0 a (by omega);have na:(⟨cs⟩:Array Value).zipIdx.toList=cs.zipIdx 0:=by simp
  have e:(⟨cs⟩:Array Value).zipIdx.foldl (fun (cs:Array Value) (p:Value×Nat)=>cs.setIfInBounds (i*n+p.2) p.1) ⟨a⟩=⟨a.take (i*n+0)++cs++a.drop (i*n+0+cs.length)⟩:=by
   rw [← Array.foldl_toList,na];exact j
  first
   | rw [e]
   | (erw [e])
  rw [g _ (by simp [d,c,b];omega)];congr 2;rw [d,c,Nat.add_zero];have:(a.take (i*n)++cs).length=i*n+n:=by simp [c];omega
  rw [← this,List.take_left,List.append_assoc]
theorem Sy {e:TypeId}{len:Nat}{xs:List (Nat×Operand)}{cells:List Value}(f:P.underlying T=some (.slice e)) (c:Wc P e ag Vd n m) (a:(decide (0<n) && decide (n≤1000) && decide (0<len) && decide (len≤1000))=true) (j:Us fr n 0 xs cells) (k:cells.length=len*n) (l:Sep S Jd J w rs A)
  (h:∀ b w',w.heap.size≤b→Sep S Jd J w' (.ba b e cells::rs) A→Mg fr dst (.slice (some ⟨b,0,none⟩) len len) fun Fa=>K Fa ds w'):De P (Oper.mk dst (.buildSlice T len ⟨xs⟩) ty pos after g) fr ds w K Q:=by
 obtain ⟨Fa,ya⟩:=Ph fr dst (.slice (some ⟨w.heap.size,0,none⟩) len len);refine sh (v:=.slice (some ⟨w.heap.size,0,none⟩) len len) (w':=w.alloc (.cells ⟨cells⟩ e)) ?_ ya (h _ _ (Nat.le_refl _) (l.alloc rfl (heap_alloc_new w _)) Fa ya);obtain ⟨z,o,u⟩:=c.zero (w:=w);have q:=c.sizeOf (w:=w);simp only [Bool.and_eq_true,decide_eq_true_eq] at a;have hmul:len*n≤1000*1000:=Nat.mul_le_mul a.2 a.1.1.2;have r:¬ (len*n > 2 ^ 24):=by omega
 have s:¬ (len*n=0):=by
  have:=Nat.mul_pos a.1.2 a.1.1.1;omega
 have qa:((⟨xs⟩:Array (Nat×Operand)).map fun (i,x)=>(i,(F fr ds).eval x)).toList=xs.map fun p=>(p.1,(F fr ds).eval p.2):=by simp
 have d:=j.fill (ds:=ds) ((Array.range (len*n)).map (z.cells[· % z.cells.size]!)).toList (by simp [k]);simp only [execOp,Instr.buildSlice,Sem.run_bind,run_underlying f,Result.andThen_ok,q,if_neg r,if_neg s,o,Sem.run_pure,qa];have t:(⟨((Array.range (len*n)).map (z.cells[· % z.cells.size]!)).toList⟩:Array Value)=(Array.range (len*n)).map (z.cells[· % z.cells.size]!):=rfl;rw [t] at d;simp only [d];simp [newRow]
structure qv (P:Program) (c:Code) (Q:Exit→Act→World→Prop) (n:Nat) (fr:List Value) (ds:List Deferred) (w:World):Prop where
 out:Code.rounds P c Q n (F fr ds) w
theorem Ky {c:Code}(n:Nat) (h:qv P c Q n fr ds w):df P (.loop c) Q fr ds w:=⟨wp_loop_rounds n h.out⟩
theorem Om {c:Code}{n:Nat}(h:df P c (Exit.then (fun a w=>∃ fr ds,a=F fr ds∧qv P c Q n fr ds w) Q) fr ds w):qv P c Q (n+1) fr ds w:=⟨by
 rw [rounds_succ];refine wp_mono h.out fun e a w b=>?_;cases e with
 | normal=>obtain ⟨fr,ds,rfl,h⟩:=b; exact h.out
 | exit id=>exact b
 | goto l=>exact b
 | ret=>exact b
 | panic d=>exact b
 | outgrown=>exact b⟩
theorem aq {c:Code}{n:Nat}(h:qv P c Q n fr ds w):Exit.then (fun a w=>∃ fr ds,a=F fr ds∧qv P c Q n fr ds w) Q .normal (F fr ds) w:=⟨_,_,rfl,h⟩
theorem SB {f:Operand}{xs:List Operand}{tys:Array TypeId}{k:FuncId}{first cap vs:List Value}{R:Value→World→Prop}(b:vc P k) (c:zb fr f (.func (.func k) ⟨first⟩ ⟨cap⟩)) (hs:Vm fr xs vs)
  (d:pc P k (first++vs++cap) w R) (h:∀ v w',R v w'→Mg fr dst v fun Fa=>K Fa ds w'):De P (Oper.mk dst (.call { callee:=.value f,args:=⟨xs⟩,argTypes:=tys }) ty pos after g) fr ds w K Q:=by
 refine Fy (args:=first++vs++cap) ?_ d h;have i:=c ds;have j:=hs ds;have a:=b.out ⟨first++vs++cap⟩ w;have e:(⟨first⟩:Array Value)++(⟨vs⟩:Array Value)++(⟨cap⟩:Array Value)=⟨first++vs++cap⟩:=by
  apply Array.ext';simp
 simp only [List.append_assoc] at a e ⊢;simp [execOp,resolve,i,Deferred.ofValue,invoke,j];first
  | exact a
  | (simpa using a)
end
end Go.oc
namespace Go.sd
open Go.oc Go.RowKit
section
variable {P:Program}{Q:Exit→Act→World→Prop}{K:List Value→List Deferred→World→Prop}{fr Fa:List Value}{ds:List Deferred}{w:World}
variable {dst:Option Tmp}{ty:TypeId}{pos:String}{after:Array Edge}{g:Option (Nat×Bool)}
variable {J:World}{rs Lc:List dc}{μ la:M}
variable {T:TypeId}{d:TypeDesc}{ag:Bool}{Vd:List Value}{n m:Nat}
def okV (R:Value→World→Prop):Ending→World→Prop
 | .returned v,w=>R v w
 | _,_=>False
def Zs (P:Program) (fn:Func) (R:Value→World→Prop):Exit→Act→World→Prop
 | .panic _,_,_=>False
 | e,a,w=>bodyPostD P fn (okV R) e a w
theorem Du {f:FuncId}{fn:Func}{c:Code}{args frm:List Value}{R:Value→World→Prop}(d:P.funcs[f]?=some fn) (g:fn.body=some c)
  (i:args++List.replicate (fn.ntmps - args.length) undef=frm) (h:df P c (Zs P fn R) frm [] w):pc P f args w R:=by
 refine ⟨Calls.mono (calls_of_wp_defers (R:=okV R) d g ?_) fun e w he=>by cases e<;>exact he⟩;subst i;have na:(⟨args⟩:Array Value)++Array.replicate (fn.ntmps - args.length) undef=⟨args++List.replicate (fn.ntmps - args.length) undef⟩:=by
  apply Array.ext';simp
 have h:=wp_mono h.out (Q':=bodyPostD P fn (okV R)) fun e a w b=>by
  cases e<;>first | exact b | exact (False.elim b)
 simpa [F,na] using h
structure Cw (P:Program) (f:FuncId) (args:List Value) (w:World) (R:Value→World→Prop):Prop where
 out:∀ u,CallsD P f ⟨args⟩ u w fun e a w'=>a=u∧okV R e w'
theorem TB {f:FuncId}{fn:Func}{c:Code}{args frm:List Value}{R:Value→World→Prop}(d:P.funcs[f]?=some fn) (g:fn.body=some c)
  (j:args++List.replicate (fn.ntmps - args.length) undef=frm) (h:df P c (Zp P fn R) frm [] w):Cw P f args w R:=by
 refine ⟨fun u=>callsD_of_wp d g ?_⟩;subst j;have na:(⟨args⟩:Array Value)++Array.replicate (fn.ntmps - args.length) undef=⟨args++List.replicate (fn.ntmps - args.length) undef⟩:=by
  apply Array.ext';simp
 have h:=wp_mono h.out (Q':=bodyPost P fn (okV R)) fun e a w b=>by
  cases e with
  | normal=>exact b
  | ret=>exact b
  | panic k=>exact b
  | exit i=>exact b
  | goto l=>exact b
  | outgrown=>exact b
 simpa [F,na] using h
theorem Dw {f:Operand}{xs:List Operand}{tys:Array TypeId}{k:FuncId}{cap vs:List Value}(a:zb fr f (.func (.func k) #[] ⟨cap⟩)) (hs:Vm fr xs vs)
  (b:Vf fr dst undef Fa) (h:K Fa (⟨.fn (.func k) ⟨cap⟩,⟨vs⟩⟩::ds) w):De P (Oper.mk dst (.defer { callee:=.value f,args:=⟨xs⟩,argTypes:=tys }) ty pos after g) fr ds w K Q:=by
 constructor;intro j c;have d:=a ds;have e:=hs ds;have i:(execOp (F fr ds).eval (Oper.mk dst (.defer { callee:=.value f,args:=⟨xs⟩,argTypes:=tys }) ty pos after g)).run P w=.ok (.defer ⟨.fn (.func k) ⟨cap⟩,⟨vs⟩⟩) w:=by
  simp [execOp,resolve,d,Deferred.ofValue,e]
 unfold Oper.wp;rw [i];have:=c _ _ _ h;rw [← b _] at this;simpa [Oper.upon,F,Act.put] using this
theorem jx {fn:Func}{R a:Value→World→Prop}{k:FuncId}{cap vs:List Value}(b:vc P k) (d:Cw P k (vs++cap) w a) (h:∀ v w',a v w'→Zs P fn R .ret (F fr ds) w') :
  Zs P fn R .ret (F fr (⟨.fn (.func k) ⟨cap⟩,⟨vs⟩⟩::ds)) w:=by
 refine ⟨by simp,.func k,⟨cap⟩,k,⟨vs++cap⟩,rfl,?_,?_⟩
 ·have:=b.out ⟨vs++cap⟩ w;simp [invoke,this]
 ·refine (d.out .returning).mono fun e f w' he=>?_;obtain ⟨rfl,he⟩:=he;cases e with
  | returned v=>exact h v w' he
  | panicked c=>exact he.elim
  | outgrown=>exact he.elim
theorem Rq {fn:Func}{R:Value→World→Prop}{a:List ResultVar}{vs:List Value}(b:fn.results=⟨a⟩) (Ab:kb P fr w a vs) (h:R (jt vs) w):Zs P fn R .ret (F fr []) w :=
 ⟨_,kA b Ab,h⟩
def Za (ms:List (Nat×List MapEntry×Nat)):List dc:=(ms.map fun m=>.map m.1 m.2.1 m.2.2).reverse
def Tb (ms:List (Nat×List MapEntry×Nat)):List Value:=ms.map fun m=>.map (some m.1)
variable {κ β:Type}[DecidableEq κ] [mb κ] [hh β]
def Md (μ:M):List (Nat×List MapEntry×Nat)→List (List (κ×β))→Prop
 | [],Rd=>Rd=[]
 | m::ms,Rd=>∃ x t,Rd=x::t∧xe μ m.2.1 m.2.2 x∧Md μ ms t
theorem Md.up (l:ea μ la):∀ {ms:List (Nat×List MapEntry×Nat)}{Rd:List (List (κ×β))},Md μ ms Rd→Md la ms Rd
 | [],Rd,h=>by rw [Md] at h ⊢; exact h
 | m::ms,Rd,h=>by
  rw [Md] at h ⊢;obtain ⟨x,t,a,b,c⟩:=h;exact ⟨x,t,a,b.up l,Md.up l c⟩
theorem Md.get:∀ {ms:List (Nat×List MapEntry×Nat)}{Rd:List (List (κ×β))}{i:Nat}{x:List (κ×β)},Md μ ms Rd→Rd[i]?=some x→∃ b es c,ms[i]?=some (b,es,c)∧xe μ es c x
 | [],Rd,i,x,h,a=>by rw [Md] at h; subst h; simp at a
 | m::ms,Rd,i,x,h,a=>by
  rw [Md] at h;obtain ⟨y,t,rfl,d,e⟩:=h;cases i with
  | zero=>simp at a; subst a; exact ⟨m.1,m.2.1,m.2.2,rfl,d⟩
  | succ i=>simp at a; simpa using Md.get e a
theorem Md.set:∀ {ms:List (Nat×List MapEntry×Nat)}{Rd:List (List (κ×β))}{i:Nat}{e:Nat×List MapEntry×Nat}{x:List (κ×β)},Md μ ms Rd→xe μ e.2.1 e.2.2 x→Md μ (ms.set i e) (Rd.set i x)
 | [],Rd,i,e,x,h,a=>by rw [Md] at h; subst h; simp [Md]
 | m::ms,Rd,i,e,x,h,a=>by
  rw [Md] at h;obtain ⟨y,t,rfl,c,b⟩:=h;cases i with
  | zero=>exact ⟨x,t,rfl,a,b⟩
  | succ i=>exact ⟨y,_,rfl,c,Md.set b a⟩
theorem Md.push:∀ {ms:List (Nat×List MapEntry×Nat)}{Rd:List (List (κ×β))}{e:Nat×List MapEntry×Nat}{x:List (κ×β)},Md μ ms Rd→xe μ e.2.1 e.2.2 x→Md μ (ms++[e]) (Rd++[x])
 | [],Rd,e,x,h,a=>by rw [Md] at h; subst h; exact ⟨x,[],rfl,a,rfl⟩
 | m::ms,Rd,e,x,h,a=>by
  rw [Md] at h;obtain ⟨y,t,rfl,b,c⟩:=h;exact ⟨y,_,rfl,b,Md.push c a⟩
theorem Md.take:∀ {ms:List (Nat×List MapEntry×Nat)}{Rd:List (List (κ×β))}(j:Nat),Md μ ms Rd→Md μ (ms.take j) (Rd.take j)
 | [],Rd,j,h=>by rw [Md] at h; subst h; simp [Md]
 | m::ms,Rd,j,h=>by
  rw [Md] at h;obtain ⟨y,t,rfl,a,b⟩:=h;cases j with
  | zero=>simp [Md]
  | succ j=>exact ⟨y,_,rfl,a,Md.take j b⟩
theorem YD (ms:List (Nat×List MapEntry×Nat)) (e:Nat×List MapEntry×Nat):Za (ms++[e])=.map e.1 e.2.1 e.2.2::Za ms:=by simp [Za]
theorem qE {ms:List (Nat×List MapEntry×Nat)}{i b c Db:Nat}{es a:List MapEntry}(h:ms[i]?=some (b,es,c)):Tb (ms.set i (b,a,Db))=Tb ms:=by
 unfold Tb;refine List.ext_getElem? fun j=>?_;rw [List.getElem?_map,List.getElem?_map,List.getElem?_set];split
 ·rename_i d;subst d;have e:=(List.getElem?_eq_some_iff.1 h).1;rw [if_pos e,h];rfl
 ·rfl
theorem rE {ms:List (Nat×List MapEntry×Nat)}{i b c:Nat}{es:List MapEntry}(h:ms[i]?=some (b,es,c)):dc.map b es c ∈ Za ms:=by
 unfold Za;rw [List.mem_reverse,List.mem_map];exact ⟨(b,es,c),List.mem_of_getElem? h,rfl⟩
theorem _root_.Go.oc.Sep.XC {pre:List dc}{ms:List (Nat×List MapEntry×Nat)}{i b c:Nat}{es:List MapEntry}(a:ka μ J w (pre++(Za ms++rs))) (h:ms[i]?=some (b,es,c)):w.heap[b]?=some (.map ⟨es⟩ c):=
 a.all (.map b es c) (by simp [rE h])
theorem Row.mapElem {v:Value}{ms:List (Nat×List MapEntry×Nat)}{Rd:List (List (κ×β))}{i:Int}{x:List (κ×β)}(h:Row w v T 1 Rd.length (Tb ms)) (hm:Md μ ms Rd) (g:at_ Rd i=some x) :
  ∃ b o a es c,lv v 1 i b o∧(∀ w T,Row w v T 1 Rd.length (Tb ms)→tj w b o [.map (some a)])∧ms[i.toNat]?=some (a,es,c)∧xe μ es c x:=by
 obtain ⟨f,k,l⟩:=Ju g;obtain ⟨a,es,c,e,m⟩:=hm.get l;obtain ⟨b,o,q,rfl,r⟩:=h.Iu (by omega);refine ⟨b,o+i.toNat,a,es,c,⟨o,_,_,rfl,f,k,by simp⟩,fun s t n j u d=>?_,e,m⟩;obtain ⟨Ke,y,Db,Ab,p⟩:=n.Iu (by omega);simp at Ab;obtain ⟨⟨rfl,rfl⟩,rfl⟩:=Ab;cases j with
 | succ j=>simp at d
 | zero =>
  simp at d;subst d;have:(Tb ms)[i.toNat]?=some (.map (some a)):=by unfold Tb;rw [List.getElem?_map,e];rfl
  exact p _ _ this
theorem Ly {x y z:Operand}{Se aa:TypeId}{v:Value}{pre:List dc}{ms:List (Nat×List MapEntry×Nat)}{b c i:Nat}{es:List MapEntry}{kk:κ}{q:List (κ×β)}{xx:β}{Rd:List (List (κ×β))}(n:P.underlying T=some (.map Se aa)) (o:P.underlying Se=some (mb.bg (κ:=κ))) (p:zb fr x (.map (some b))) (r:zb fr y (mb.key kk)) (s:zb fr z v) (Ab:hh.Ni μ v xx)
  (t:ka μ J w (pre++(Za ms++rs))) (d:ms[i]?=some (b,es,c)) (he:xe μ es c q) (hm:Md μ ms Rd)
  (ya:Vf fr dst undef Fa) (h:∀ f w',Md μ f (Rd.set i (Fc q kk xx))→Tb ms=Tb f→Rd.length=(Rd.set i (Fc q kk xx)).length→ka μ J w' (pre++(Za f++rs))→K Fa ds w'):De P (Oper.mk dst (.mapUpdate T x y z) ty pos after g) fr ds w K Q:=by
 have A:=(List.getElem?_eq_some_iff.1 d).1;have u:(pre++(Za ms++rs))[pre.length+(ms.length - 1 - i)]?=some (.map b es c):=by
  rw [List.getElem?_append_right (by omega),Nat.add_sub_cancel_left,List.getElem?_append_left (by simp [Za];omega)];unfold Za;rw [List.getElem?_reverse (by simp;omega),List.length_map,show ms.length - 1 - (ms.length - 1 - i)=i by omega,List.getElem?_map,d];rfl
 refine uC n o p r (mb.Se kk) s t u he.vf.keys ya fun w' Lc k l=>h _ w' (hm.set (e:=(b,putAt es c (mb.key kk) v,Tn es c (mb.key kk))) (he.put kk Ab)) (qE d).symm (by simp) ?_;unfold Hc at k;subst k;have e:(pre++(Za ms++rs)).set (pre.length+(ms.length - 1 - i)) (.map b (putAt es c (mb.key kk) v) (Tn es c (mb.key kk)))=pre++(Za (ms.set i (b,putAt es c (mb.key kk) v,Tn es c (mb.key kk)))++rs):=by
  rw [List.set_append_right _ _ (by omega),Nat.add_sub_cancel_left,List.set_append_left _ _ (by simp [Za];omega)];congr 2;unfold Za;rw [List.map_set];refine List.ext_getElem? fun j=>?_;rcases Nat.lt_or_ge j ms.length with a | a
  ·rw [List.getElem?_set,List.getElem?_reverse (by simpa using a),List.getElem?_reverse (by simpa using a)];simp only [List.length_map,List.length_reverse,List.length_set,List.getElem?_set];by_cases m:ms.length - 1 - i=j
   ·rw [if_pos m,if_pos (by omega),if_pos (by omega),if_pos (by omega)]
   ·rw [if_neg m,if_neg (by omega)]
  ·rw [List.getElem?_eq_none (by simpa using a),List.getElem?_eq_none (by simpa using a)]
 rw [e] at l;exact l
theorem wC {t:TypeId}{s x:Operand}{v:Value}{bytes k b d c:Nat}{ms:List (Nat×List MapEntry×Nat)}{Rd e:List (List (κ×β))}(f:P.underlying t=some (.slice T)) (i:Wc P T ag Vd 1 bytes) (j:Vd.length=1)
  (hs:zb fr s v) (l:zb fr x (.slice (some ⟨b,0,none⟩) 1 c)) (m:ka μ J w rs) (qa:hc rs k (.row v T 1 Rd.length (Tb ms))) (n:tj w b 0 [.map (some d)]) (o:app Rd [([]:List (κ×β))]=some e) (p:bytes≤4096)
  (h:∀ a w' Lc,Hc rs k (.row a T 1 e.length (Tb ms++[.map (some d)])) Lc→ka μ J w' Lc→Mg fr dst a fun Fa=>K Fa ds w') :
  De P (Oper.mk dst (.call { callee:=.builtin .append,args:=#[s,x],argTypes:=#[t,t] }) ty pos after g) fr ds w K Q:=by
 obtain ⟨q,r⟩:=Iy o;refine my f i (by simp [j]) hs l m qa n rfl rfl ⟨r,p⟩ fun a w' Lc u=>h a w' Lc (by rw [q];exact u)
theorem _root_.Go.oc.Sep.YC {pre:List dc}{ms:List (Nat×List MapEntry×Nat)}{b c:Nat}{es:List MapEntry}(a:ka μ J w (pre++(.map b es c::(Za ms++rs)))):ka μ J w (pre++(Za (ms++[(b,es,c)])++rs)):=by
 rw [YD];exact a
theorem cA (ms:List (Nat×List MapEntry×Nat)) (b c:Nat) (es:List MapEntry):Tb ms++[.map (some b)]=Tb (ms++[(b,es,c)]):=by simp [Tb]
theorem _root_.Go.oc.Sep.Zu {pre:List dc}{ms:List (Nat×List MapEntry×Nat)}{j:Nat}(a:ka μ J w (pre++(Za ms++rs))):ka μ J w (pre++(Za (ms.take j)++rs)):=by
 have c:(pre++(Za (ms.take j)++rs)).Sublist (pre++(Za ms++rs)):=by
  refine (List.Sublist.refl pre).append (List.Sublist.append ?_ (List.Sublist.refl rs));unfold Za;exact ((List.take_sublist j ms).map _).reverse
 refine ⟨a.keeps,fun r d=>a.all r (c.subset d),(c.filterMap _).nodup a.Zh,fun b e=>a.new b ((c.filterMap _).subset e),?_⟩;refine a.Ki.mono fun k _ hs=>⟨hs.1,fun hm=>hs.2 ((c.filterMap dc.block).subset hm)⟩
theorem Row.ZC {v:Value}{sz:Nat}{xs:List Value}{j:Int}(h:Row w v T sz n xs) (c:0≤j) (m:j≤n) :
  ∃ a,Zq v sz none (some j) a∧a.ownBlock=v.ownBlock∧∀ w T,Row w v T sz n xs→Row w a T sz j.toNat (xs.take (j.toNat*sz)):=by
 have qa:∀ w T,Row w v T sz n xs→(xs.take (j.toNat*sz)).length=j.toNat*sz:=fun w T h=>by
  rw [List.length_take,h.1];exact Nat.min_eq_left (Nat.mul_le_mul_right _ (by omega))
 rcases h.2 with ⟨rfl,rfl⟩ | ⟨g,o,cap,cur,rfl,p,q,r,s,t⟩
 ·have:j=0:=by omega
  subst this;exact ⟨.slice none 0 0,⟨none,0,0,rfl,by simp,by simp,by simp,by simp⟩,rfl,fun w T h=>⟨qa w T h,.inl ⟨rfl,rfl⟩⟩⟩
 ·refine ⟨.slice (some ⟨g,o,none⟩) j.toNat cap,⟨_,_,_,rfl,by simp,by simpa using c,by simp;omega,?_⟩,rfl,fun d e b=>⟨qa d e b,.inr ?_⟩⟩
  ·simp [Lj]
  ·rcases b.2 with ⟨Ab,_⟩ | ⟨u,x,y,f,Ab,i,k1,k,l,Gd⟩
   ·simp at Ab
   ·simp at Ab;obtain ⟨⟨rfl,rfl⟩,rfl⟩:=Ab;exact ⟨g,o,cap,f,rfl,i,by omega,k,l,by rw [← Gd,List.take_take,Nat.min_eq_left (Nat.mul_le_mul_right _ (by omega))]⟩
theorem Row.cutFrom {v:Value}{sz:Nat}{xs:List Value}{i:Int}(h:Row w v T sz n xs) (f:0≤i) (j:i≤n) :
  ∃ a,Zq v sz (some i) none a∧a.ownBlock=v.ownBlock∧∀ w T,Row w v T sz n xs→Row w a T sz (n - i.toNat) (xs.drop (i.toNat*sz)):=by
 have qa:∀ w T,Row w v T sz n xs→(xs.drop (i.toNat*sz)).length=(n - i.toNat)*sz:=fun w T h=>by
  rw [List.length_drop,h.1,Nat.sub_mul]
 rcases h.2 with ⟨rfl,rfl⟩ | ⟨g,o,cap,cur,rfl,m,p,q,r,s⟩
 ·have:i=0:=by omega
  subst this;exact ⟨.slice none 0 0,⟨none,0,0,rfl,by simp,by simp,by simp,by simp⟩,rfl,fun w T h=>⟨qa w T h,.inl ⟨rfl,by simp⟩⟩⟩
 ·refine ⟨_,⟨_,_,_,rfl,by simpa using f,by simpa using j,by simp;omega,rfl⟩,by simp only [Option.getD_some];split<;>simp [Value.ownBlock,Lj],fun k l b=>⟨qa k l b,.inr ?_⟩⟩;rcases b.2 with ⟨Ab,_⟩ | ⟨t,u,x,c,Ab,d,k1,y,z,Gd⟩
  ·simp at Ab
  ·simp at Ab;obtain ⟨⟨rfl,rfl⟩,rfl⟩:=Ab;have hmul:i.toNat*sz+(cap - i.toNat)*sz=cap*sz:=by rw [← Nat.add_mul];congr 1;omega
   by_cases e:cap=i.toNat
   ·refine ⟨g,o,cap - i.toNat,c,by simp [e],d,by omega,by omega,by omega,?_⟩;rw [show n - i.toNat=0 by omega,Nat.zero_mul,List.take_zero,List.drop_eq_nil_of_le (by rw [b.1];exact Nat.mul_le_mul_right _ (by omega))]
   ·refine ⟨g,o+i.toNat*sz,cap - i.toNat,c,by simp [e,Lj],d,by omega,by omega,by omega,?_⟩;rw [← Gd,← List.drop_drop,List.drop_take,Nat.sub_mul]
theorem ua.drop {α:Type}[Sa α]:∀ {l:List α}{cells:List Value}(i:Nat),ua μ cells l→ua μ (cells.drop (i*Sa.sz α)) (l.drop i)
 | [],cells,i,h=>by rw [ua] at h; subst h; simp [ua]
 | x::l,cells,0,h=>by simpa using h
 | x::l,cells,i+1,h=>by
  rw [ua] at h;obtain ⟨cs,t,rfl,a,b⟩:=h;have e:(i+1)*Sa.sz α=cs.length+i*Sa.sz α:=by rw [Nat.add_mul,Sa.vg a];omega
  rw [e,← List.drop_drop];simpa using ua.drop i b
theorem Row.pD {α:Type}[Sa α]{v:Value}{cells:List Value}{l Ha:List α}{i:Int}(h:Row w v T (Sa.sz α) l.length cells) (hm:ua μ cells l) (g:cut l i l.length=some Ha) :
  ∃ a b,Zq v (Sa.sz α) (some i) none a∧a.ownBlock=v.ownBlock∧(∀ w T,Row w v T (Sa.sz α) l.length cells→Row w a T (Sa.sz α) Ha.length b)∧ua μ b Ha:=by
 obtain ⟨⟨c,d,k⟩,rfl⟩:=Ss g;obtain ⟨a,na,e,f⟩:=Row.cutFrom h c d;refine ⟨a,cells.drop (i.toNat*Sa.sz α),na,e,fun w T j=>?_,by simpa using hm.drop i.toNat⟩;have:=f w T j;simpa using this
theorem Row.qD {v:Value}{ms:List (Nat×List MapEntry×Nat)}{Rd b:List (List (κ×β))}{j:Int}(h:Row w v T 1 Rd.length (Tb ms)) (hm:Md μ ms Rd) (g:cut Rd 0 j=some b) :
  ∃ a c,Zq v 1 none (some j) a∧a.ownBlock=v.ownBlock∧(∀ w T,Row w v T 1 Rd.length (Tb ms)→Row w a T 1 b.length (Tb c))∧Md μ c b∧ms.take j.toNat=c:=by
 obtain ⟨⟨l,d,e⟩,rfl⟩:=Ss g;obtain ⟨a,na,f,i⟩:=Row.ZC h d e;refine ⟨a,ms.take j.toNat,na,f,fun w T k=>?_,by simpa using hm.take j.toNat,rfl⟩;have:=i w T k;have el:((Rd.take j.toNat).drop (0:Int).toNat).length=j.toNat:=by simp;omega
 rw [el];have Ma:Tb (ms.take j.toNat)=(Tb ms).take (j.toNat*1):=by simp [Tb]
 rw [Ma];exact this
theorem _root_.Go.oc.Sep.perm {S Jd:Nat→Prop}{A:World→Prop}(h:Sep S Jd J w rs A) (a:rs.Perm Lc):Sep S Jd J w Lc A where
 keeps:=h.keeps
 all r c:=h.all r (a.mem_iff.2 c)
 Zh:=(a.filterMap _).nodup_iff.1 h.Zh
 new b d:=h.new b ((a.filterMap _).mem_iff.2 d)
 Ki:=h.Ki.mono fun k _ hs=>⟨hs.1,fun hm=>hs.2 ((a.filterMap dc.block).mem_iff.2 hm)⟩
theorem _root_.Go.oc.Sep.ud {a p M R:List dc}(h:ka μ J w (a++(p++(M++R)))):ka μ J w (a++(M++(p++R))):=
 h.perm (List.Perm.append_left a (by
  rw [← List.append_assoc,← List.append_assoc];exact List.Perm.append_right R List.perm_append_comm))
theorem _root_.Go.oc.Sep.Lu {k:Nat}{v c:Value}{sz e:Nat}{xs f:List Value}{S Jd:Nat→Prop}{A:World→Prop}(a:Sep S Jd J w rs A) (qa:hc rs k (.row v T sz n xs)) (l:c.ownBlock=v.ownBlock) (m:∀ w T,Row w v T sz n xs→Row w c T sz e f) (g:Hc rs k (.row c T sz e f) Lc):Sep S Jd J w Lc A:=by
 have h:Row w v T sz n xs:=a.get qa;cases Ab:v.ownBlock with
 | some b=>exact a.put (b:=b) (r:=.row v T sz n xs) (r':=.row c T sz e f) qa Ab (l.trans Ab) g (m _ _ h) (Xh.refl _)
 | none =>
  unfold Hc at g;subst g;have j:=GA (r':=.row c T sz e f) qa (show c.ownBlock=v.ownBlock from l);refine ⟨a.keeps,fun r o=>?_,by rw [j];exact a.Zh,by rw [j];exact a.new,by rw [j];exact a.Ki⟩;obtain ⟨i,d⟩:=List.mem_iff_getElem?.1 o;rw [List.getElem?_set] at d;split at d
  ·split at d
   ·cases d;exact m _ _ h
   ·cases d
  ·exact a.all r (List.mem_of_getElem? d)
end
end Go.sd
namespace Go.sd
open Go.oc Go.RowKit
theorem Nc {P : Program} {f : FuncId} {fn : Func} (a : P.funcs[f]? = some fn) (b : fn.body.isSome = true := by rfl) (c : (fn.name == "runtime.NumGoroutine") = false := by kernel_rfl) : vc P f := bH a b c
theorem ff {P : Program}{T : TypeId}{d : TypeDesc}{ag : Bool}{z : Value}{Vd : List Value}{n m : Nat}(hu : P.underlying T = some d) (a : ix d = ag := by rfl) (h : (P.info? T).map (fun i => (i.zero, i.size, i.bytes)) = some (some z, n, m):= by kernel_rfl) (b : z.cells = ⟨Vd⟩ := by rfl) : Wc P T ag Vd n m := qJ hu a h b
end Go.sd
namespace Go.sd
open Go.oc Go.RowKit
theorem Rh {v:Value}{l:List Value}(h:Ae v=true) (k:l.all Ae=true):(v::l).all Ae=true:=by simp [h,k]
theorem bq:([]:List Value).all Ae=true:=rfl
theorem sE (A vs:List Value) (o q N:Nat) (b:q+vs.length≤N) (c:o+N≤A.length):((A.take (o+q)++vs++A.drop (o+q+vs.length)).drop o).take N=((A.drop o).take N).take q++vs++((A.drop o).take N).drop (q+vs.length):=by
 apply List.ext_getElem?;intro j;simp only [List.getElem?_take,List.getElem?_drop,List.getElem?_append,List.length_append,List.length_take,List.length_drop];have na:min (o+q) A.length=o+q:=by omega
 have a:min q (min N (A.length - o))=q:=by omega
 rw [na,a];by_cases Wa:j<q
 ·have c2:j<N:=by omega
  have c3:j<q+vs.length:=by omega
  simp [Wa,c2,c3,show o+j<o+q by omega,show o+j<o+q+vs.length by omega]
 ·by_cases c2:j<q+vs.length
  ·rw [if_pos (by omega),if_pos (by omega),if_neg (by omega),if_pos (by omega),if_neg (by omega)];congr 1;omega
  ·by_cases c3:j<N
   ·rw [if_pos c3,if_neg (by omega),if_neg (by omega),if_pos (by omega)];congr 1;omega
   ·rw [if_neg c3,if_neg (by omega),if_neg (by omega)]
section
variable {P:Program}{Q:Exit→Act→World→Prop}{K:List Value→List Deferred→World→Prop}{fr Fa:List Value}{ds:List Deferred}{w:World}
variable {dst:Option Tmp}{ty:TypeId}{pos:String}{after:Array Edge}{g:Option (Nat×Bool)}
variable {J:World}{rs Lc:List dc}{μ la:M}
variable {T:TypeId}{d:TypeDesc}{ag:Bool}{Vd:List Value}{n m:Nat}
theorem Fs {x y:Operand}{b o off sz len k:Nat}{i:Int}{v e:Value}{vs xs f:List Value}{a:TypeId}{S Jd:Nat→Prop}{A:World→Prop}(r:Wc P T ag Vd n m) (s:zb fr x (.pointer (some ⟨b,o+off,none⟩))) (t:zb fr y e) (Ab:e.cells=⟨vs⟩) (u:vs.length=n) (z:vs.all Ae=true)
  (j:Sep S Jd J w rs A) (qa:hc rs k (.row v a sz len xs)) (he:lv v sz i b o) (R:off+vs.length≤sz) (B:xs.take (i.toNat*sz+off)++vs++xs.drop (i.toNat*sz+off+vs.length)=f) (C:Hc rs k (.row v a sz len f) Lc)
  (ya:Vf fr dst undef Fa) (h:∀ w',Sep S Jd J w' Lc A→K Fa ds w'):De P (Oper.mk dst (.store T x y) ty pos after g) fr ds w K Q:=by
 have D:Row w v a sz len xs:=j.get qa;obtain ⟨c,U,c0,rfl,W,X,rfl⟩:=he.out;obtain ⟨hlen,d⟩:=D;rcases d with ⟨d,-⟩ | ⟨Y,Z,cap,cur,d,E,l,F,gc,G⟩
 ·cases d
 ·cases d;have H:i.toNat<len:=by omega
  have hmul:(i.toNat+1)*sz≤len*sz:=Nat.mul_le_mul_right _ H;have lc:len*sz≤c0*sz:=Nat.mul_le_mul_right _ l;have rc:(i.toNat+1)*sz=i.toNat*sz+sz:=Nat.succ_mul ..;have p:Dk w b a cur.toList:=E;have hle:(c+i.toNat*sz+off)+0+vs.length≤(⟨cur.toList⟩:Array Value).size:=by simp;omega
  have q:=run_storeCells_at P b (c+i.toNat*sz+off) a vs 0 ⟨cur.toList⟩ w p hle fun v Ab=>ly (List.all_eq_true.1 z v Ab);have na:e.cells.toList=vs:=by rw [Ab]
  have L:¬ (e.cells.size≠n):=by rw [Ab];simpa using u
  have M:=r.sizeOf (w:=w);simp only [Nat.add_zero] at q;have N:Xh (fun k=>k≠b) w (w.setRow b (cur.toList.take (c+i.toNat*sz+off)++vs++cur.toList.drop (c+i.toNat*sz+off+vs.length)).toArray):=⟨rfl,rfl,rfl,by simp [World.setRow],fun k fd hs=>setRow_other w b k _ hs⟩;refine uz ?_ ya (h _ (j.put (b:=b) qa rfl rfl C ?_ N))
  ·simp only [execOp,Instr.storeAt,s ds,t ds,Instr.sureAddr,storeVar,Sem.run_bind,M,Result.andThen_ok,if_neg L,na,q,Sem.run_pure]
  ·subst B;refine ⟨by simp [hlen];omega,.inr ⟨b,c,c0,_,rfl,setRow_heap w b ⟨cur.toList⟩ _ a (0,0) p,l,F,?_,?_⟩⟩
   ·simp;omega
   ·subst G;have:=sE cur.toList vs c (i.toNat*sz+off) (len*sz) (by omega) (by simp;omega);rw [← Nat.add_assoc] at this;exact this
class BK (α β:Type) [Sa α] [Sa β] where
 code:α→List β
 set:α→List β→α
 ya:M→List Value→α→Prop
 up:∀ {μ la:M}{l:List Value}{x:α},ea μ la→ya μ l x→ya la l x
 vg:∀ {μ:M}{l:List Value}{x:α},ya μ l x→l.length+1=Sa.sz α
 wr:∀ {μ:M}{l:List Value}{x:α}{ys:List β}{a:Option Addr}{c:Nat},ya μ l x→Ra μ a c ys→Sa.cs μ (l++[.slice a ys.length c]) (set x ys)
 st:∀ {μ:M}{l:List Value}{x:α}{ys:List β},ya μ l x→ya μ l (set x ys)
 Wg:∀ {x:α},set x (code x)=x
 cs:∀ {x:α}{ys:List β},code (set x ys)=ys
variable {α β:Type}[Sa α] [Sa β] [BK α β]
end
end Go.sd
namespace Go.oc
open Go.RowKit
section
variable {P:Program}{Q:Exit→Act→World→Prop}{ops:Array Oper}{fr Fa:List Value}{ds:List Deferred}{w:World}
end
end Go.oc
namespace Go.oc
open Go.RowKit
section
variable {P:Program}{Q:Exit→Act→World→Prop}{ops:Array Oper}{fr Fa:List Value}{ds:List Deferred}{w:World}
abbrev Mon:=List Nat×(World→Prop)
def Vh (i:Nat) (nc:List Mon):List Mon:=nc.filter fun m=>!m.1.contains i
def ib:List Mon→World→Prop
 | [],_=>True
 | m::l,w=>m.2 w∧ib l w
theorem ib.mem {nc:List Mon}{w:World}:ib nc w ↔ ∀ m ∈ nc,m.2 w:=by
 induction nc with
 | nil=>simp [ib]
 | cons m l a=>simp [ib,a]
theorem ib.sub {nc Ns':List Mon}(h:ib nc w) (hs:∀ m ∈ Ns',m ∈ nc):ib Ns' w:=ib.mem.2 fun m hm=>ib.mem.1 h m (hs m hm)
theorem Ew {i:Nat}{nc:List Mon}:∀ m ∈ Vh i nc,m ∈ nc:=fun m hm=>(List.mem_filter.1 hm).1
theorem nw {i:Nat}{nc Ns':List Mon}(h:∀ m ∈ Ns',m ∈ nc):∀ m ∈ Vh i Ns',m ∈ Vh i nc:=fun m hm=>List.mem_filter.2 ⟨h m (List.mem_filter.1 hm).1,(List.mem_filter.1 hm).2⟩
def Kg (P:Program) (ops:Array Oper) (Q:Exit→Act→World→Prop):List Mon→List Nat→Act→World→Prop
 | _,[],a,w=>Q .normal a w
 | nc,i::rest,a,w =>
  match ops[i]? with
  | none=>Kg P ops Q (Vh i nc) rest a w
  | some o =>
   if Region.wanted o (yielded ops a.tmps) then o.wp P a w (fun a w=>ib (Vh i nc) w∧Kg P ops Q (Vh i nc) rest a w) Q∨(o.asks P a w∧LetsOut Q)
   else Kg P ops Q (Vh i nc) rest (a.put o.dst undef) w
theorem Ty {o:Oper}{a:Act}{K c:Act→World→Prop}(h:o.wp P a w K Q) (b:∀ a w,K a w→c a w):o.wp P a w c Q:=by
 unfold Oper.wp at h ⊢;cases d:(execOp a.eval o).run P w with
 | halt e w'=>rw [d] at h; cases e <;> exact h
 | ok r w' =>
  rw [d] at h;cases r with
  | value x=>exact b _ _ h
  | skip=>exact b _ _ h
  | defer i=>exact b _ _ h
  | enter f args =>
   rw [Oper.upon_enter] at h ⊢;refine Calls.mono h fun e g he=>?_;cases e with
   | returned x=>exact b _ _ he
   | panicked j=>exact he
   | outgrown=>exact he
  | row r args =>
   rw [Oper.upon_row] at h ⊢;exact Rows.mono h fun x g he=>b _ _ he
  | _=>exact h
theorem Kg.mono:∀ (b:List Nat){nc Ns':List Mon}{a:Act}{w:World},Kg P ops Q nc b a w→(∀ m ∈ Ns',m ∈ nc)→Kg P ops Q Ns' b a w
 | [],_,_,_,_,h,_=>h
 | i::b,nc,Ns',a,w,h,hs=>by
  simp only [Kg] at h ⊢;cases c:ops[i]? with
  | none=>rw [c] at h; exact Kg.mono b h (nw hs)
  | some o =>
   rw [c] at h;simp only at h ⊢;split
   ·rename_i hw;rw [if_pos hw] at h;rcases h with h | h
    ·exact .inl (Ty h fun a w ⟨d,e⟩=>⟨d.sub (nw hs),Kg.mono b e (nw hs)⟩)
    ·exact .inr h
   ·rename_i hw;rw [if_neg hw] at h;exact Kg.mono b h (nw hs)
theorem Kg.plain:∀ (b:List Nat){nc:List Mon}{a:Act}{w:World},Kg P ops Q nc b a w→wpOps P ops Q b a w
 | [],_,_,_,h=>h
 | i::b,nc,a,w,h=>by
  simp only [Kg] at h;simp only [wpOps];cases c:ops[i]? with
  | none=>rw [c] at h; exact Kg.plain b h
  | some o =>
   rw [c] at h;simp only at h ⊢;split
   ·rename_i hw;rw [if_pos hw] at h;rcases h with h | h
    ·exact .inl (Ty h fun a w ⟨_,d⟩=>Kg.plain b d)
    ·exact .inr h
   ·rename_i hw;rw [if_neg hw] at h;exact Kg.plain b h
theorem vz {N:World→Prop}{S:List Nat}{i d:Nat}(q:vk Q d){o:Oper}{v:Value}(z:ops[i]?=some o) (ya:o.dst=some d){wt:Bool}(A:wt=false→v=undef) :
  ∀ (a b:List Nat) (fr:List Value) (ds:List Deferred) (w:World) (nc:List Mon),
   (∀ j ∈ a,j ∉ S∧match ops[j]? with
    | some p=>Qq p.op=true∧(reads ops p).contains d=false∧p.dst≠some d∧(∀ e,p.dst=some e→(reads ops o).contains e=false)
    | none=>True) →
   N w→ib nc w→Qq o.op=true→Region.wanted o (yielded ops (F fr ds).tmps)=wt →
   (wt=true→∀ ds w,N w→(execOp (F fr ds).eval o).run P w=.ok (.value v) w) →
   Kg P ops Q ((S,N)::nc) (a++b) (F (fr.set d v) ds) w→Kg P ops Q nc (a++i::b) (F fr ds) w
 | [],b,fr,ds,w,nc,_,hw,s,t,c,u,h=>by
  simp only [List.nil_append] at h ⊢;have h:=Kg.mono b h (Ns':=Vh i nc) fun m hm=>List.mem_cons_of_mem _ (Ew m hm);simp only [Kg,z];cases wt with
  | true =>
   rw [if_pos c];left;unfold Oper.wp;rw [u rfl ds w hw,Oper.upon_value,ya];rw [show (F fr ds).put (some d) v=F (fr.set d v) ds from ma rfl ds];exact ⟨s.sub Ew,h⟩
  | false =>
   rw [if_neg (by rw [c];simp),ya,← A rfl];rw [show (F fr ds).put (some d) v=F (fr.set d v) ds from ma rfl ds];exact h
 | j::a,b,fr,ds,w,nc,H,hw,s,t,c,u,h=>by
  obtain ⟨W,B⟩:=H j (by simp);have K:∀ k ∈ a,_:=fun k l=>H k (by simp [l]);have X:Vh j ((S,N)::nc)=(S,N)::Vh j nc:=by simp [Vh,W]
  simp only [List.cons_append,Kg,X] at h ⊢;cases L:ops[j]? with
  | none =>
   rw [L] at h;simp only at h ⊢;exact vz q z ya A a b fr ds w _ K hw (s.sub Ew) t c u h
  | some p =>
   rw [L] at h B;simp only at h B ⊢;obtain ⟨M,C,Y,R⟩:=B;rw [VE (fr:=fr) (v:=v) (ds:=ds) (ds':=ds) C] at h;have key:∀ (x:Value) (w':World) (ds':List Deferred),N w'→ib (Vh j nc) w'→Kg P ops Q ((S,N)::Vh j nc) (a++b) ((F (fr.set d v) ds').put p.dst x) w'→Kg P ops Q (Vh j nc) (a++i::b) ((F fr ds').put p.dst x) w':=by
    intro x w' ds' Z gc l;obtain ⟨g,g1,g2,g3⟩:=put_eq fr ds' p.dst x;have lc:=wanted_put (ops:=ops) (o:=o) (p:=p) (ds':=ds') (fun y D=>g3 fr y ds' ds' D) R;rw [g1] at l ⊢;rw [g2 _ _ _ Y] at l;refine vz q z ya A a b (g fr) ds' w' _ K Z gc t (lc.trans c) (fun rc n fd id=>?_) l;rw [show execOp (F (g fr) n).eval o=execOp (F fr n).eval o from execOp_congr o t fun y D=>g3 fr y n n fun e he hs=>by
     exact vB (R e he) y D hs]
    exact u rc n fd id
   by_cases T:Region.wanted p (yielded ops (F fr ds).tmps)=true
   ·rw [if_pos T] at h ⊢;rcases h with h | h
    ·left;unfold Oper.wp at h ⊢;rw [wB (ds':=ds) M C] at h;cases U:(execOp (F fr ds).eval p).run P w with
     | halt e w' =>
      rw [U] at h;cases e<;>first | exact h | exact q _ _ _ _ _ h
     | ok r w' =>
      rw [U] at h;cases r with
      | value x=>exact ⟨h.1.2,key x w' ds h.1.1 h.1.2 h.2⟩
      | skip=>exact ⟨h.1.2,key undef w' ds h.1.1 h.1.2 h.2⟩
      | defer md=>exact ⟨h.1.2,key undef w' (md::ds) h.1.1 h.1.2 h.2⟩
      | enter f args =>
       rw [Oper.upon_enter] at h ⊢;refine Calls.mono h fun e E he=>?_;cases e with
       | returned x=>exact ⟨he.1.2,key x E ds he.1.1 he.1.2 he.2⟩
       | panicked rd=>exact q _ _ _ _ _ he
       | outgrown=>exact he
      | row r args =>
       rw [Oper.upon_row] at h ⊢;exact Rows.mono h fun x E he=>⟨he.1.2,key x E ds he.1.1 he.1.2 he.2⟩
      | _=>exact h
    ·right;refine ⟨?_,h.2⟩;have G:=h.1;unfold Oper.asks at G ⊢;rw [wB (ds':=ds) M C] at G;exact G
   ·rw [if_neg T] at h ⊢;exact key undef w ds hw (s.sub Ew) h
structure gf (P:Program) (ops:Array Oper) (Q:Exit→Act→World→Prop) (nc:List Mon) (R:List Nat) (fr:List Value) (ds:List Deferred) (w:World):Prop where
 out:ib nc w→∀ a,Ml ops R a→Kg P ops Q nc a (F fr ds) w
theorem Sd {R:List Nat}(h:gf P ops Q [] R fr ds w):Uz P ops Q R fr ds w:=⟨fun a b=>Kg.plain a (h.out trivial a b)⟩
theorem zd {nc:List Mon}(h:Q .normal (F fr ds) w):gf P ops Q nc [] fr ds w:=⟨fun _ b a=>by
 cases a with
 | z=>exact h
 | s h _=>exact absurd (Kr h) (by simp)⟩
def Nk (ops:Array Oper) (S R:List Nat) (i:Nat):Bool :=
 match ops[i]? with
 | some o=>match o.dst with
  | some d=>Qq o.op && R.all fun j=>S.contains j || (match ops[j]? with
    | some p=>Qq p.op && !(reads ops p).contains d && p.dst != some d && (match p.dst with | some e=>!(reads ops o).contains e | none=>true)
    | none=>true)
  | _=>false
 | none=>false
theorem Gs {nc:List Mon}{R R':List Nat}{i:Nat}(S:List Nat) (N:World→Prop){wt:Bool}{dst:Tmp}{op:Op}{ty:TypeId}{pos:String}{after:Array Edge}{l:Option (Nat×Bool)}{v:Value}(C:vk Q dst) (m:(decide R.Nodup && enabled ops R i && waits ops R S i && Nk ops S R i && S.contains i)=true) (D:R.erase i=R') (n:ops[i]?=some ⟨some dst,op,ty,pos,after,l⟩)
  (E:Region.wanted ⟨some dst,op,ty,pos,after,l⟩ (yielded ops (F fr ds).tmps)=wt) (G:wt=false→v=undef) (o:N w)
  (Ab:wt=true→∀ ds w',N w'→(execOp (F fr ds).eval ⟨some dst,op,ty,pos,after,l⟩).run P w'=.ok (.value v) w') (f:Hc fr dst v Fa) (h:gf P ops Q ((S,N)::nc) R' Fa ds w):gf P ops Q nc R fr ds w:=⟨fun q W r=>by
 simp only [Bool.and_eq_true,decide_eq_true_eq] at m;obtain ⟨⟨⟨⟨s,t⟩,u⟩,g⟩,-⟩:=m;obtain ⟨x,y,rfl,H,z⟩:=r.split s (Kr t) t;have A:=Ml.later (S:=S) r s (fun j d=>by
  unfold waits at u;have:=List.all_eq_true.1 u j d;simp only [Bool.or_eq_true,beq_iff_eq,List.any_eq_true,Bool.and_eq_true,List.contains_iff_mem] at this;rcases this with h | ⟨k,k1,K,L⟩
  ·exact .inl h
  ·exact .inr ⟨k,k1,K,L⟩) x y rfl (fun hm=>(z i hm).2.1 rfl)
 unfold Nk at g;simp only [n,Bool.and_eq_true,List.all_eq_true,Bool.or_eq_true,List.contains_iff_mem] at g;unfold Hc at f;subst f;subst D;refine vz C n rfl G (N:=N) (S:=S) (v:=v) x y fr ds w nc (fun j d=>⟨A j d,?_⟩) o q g.1 E Ab (h.out ⟨o,q⟩ _ H);obtain ⟨a,b,c⟩:=z j d;have:=g.2 j a;rcases this with h | h
 ·exact absurd h (A j d)
 ·cases f:ops[j]? with
  | none=>trivial
  | some p =>
   rw [f] at h;simp only [Bool.and_eq_true,Bool.not_eq_true',bne_iff_ne,ne_eq] at h;obtain ⟨⟨⟨M,T⟩,U⟩,B⟩:=h;refine ⟨M,T,U,fun e he=>?_⟩;rw [he] at B;simpa using B⟩
theorem aD {nc:List Mon}{R R':List Nat}{i:Nat}(S:List Nat){dst:Tmp}{op:Op}{ty:TypeId}{pos:String}{after:Array Edge}{v:Value}(a:vk Q dst) (b:(decide R.Nodup && enabled ops R i && waits ops R S i && Nk ops S R i && S.contains i)=true) (c:R.erase i=R') (d:ops[i]?=some ⟨some dst,op,ty,pos,after,none⟩)
  (Ab:bn P ⟨some dst,op,ty,pos,after,none⟩ fr w v) (e:Hc fr dst v Fa) (h:gf P ops Q ((S,fun w'=>bn P ⟨some dst,op,ty,pos,after,none⟩ fr w' v)::nc) R' Fa ds w):gf P ops Q nc R fr ds w :=
 Gs S _ (wt:=true) a b c d (Vb rfl) (fun h=>by cases h) Ab (fun _ ds w' hw=>hw.out ds) e h
theorem Eu {nc:List Mon}{R R':List Nat}{i j d:Nat}{b:Bool}(S:List Nat){dst:Tmp}{op:Op}{ty:TypeId}{pos:String}{after:Array Edge}{v:Value}(a:vk Q dst) (c:(decide R.Nodup && enabled ops R i && waits ops R S i && Nk ops S R i && S.contains i)=true) (e:R.erase i=R') (f:ops[i]?=some ⟨some dst,op,ty,pos,after,some (j,b)⟩) (g:(ops[j]?).bind (·.dst)=some d) (qa:hc fr d (.bool b))
  (Ab:bn P ⟨some dst,op,ty,pos,after,some (j,b)⟩ fr w v) (k:Hc fr dst v Fa) (h:gf P ops Q ((S,fun w'=>bn P ⟨some dst,op,ty,pos,after,some (j,b)⟩ fr w' v)::nc) R' Fa ds w):gf P ops Q nc R fr ds w :=
 Gs S _ (wt:=true) a c e f (qy rfl g qa) (fun h=>by cases h) Ab (fun _ ds w' hw=>hw.out ds) k h
theorem Kg.add {m:Mon}(c:∀ w,m.2 w):∀ (b:List Nat){nc:List Mon}{a:Act}{w:World},Kg P ops Q nc b a w→Kg P ops Q (m::nc) b a w
 | [],_,_,_,h=>h
 | i::b,nc,a,w,h=>by
  have hs:Vh i (m::nc)=m::Vh i nc∨Vh i (m::nc)=Vh i nc:=by
   unfold Vh;rw [List.filter_cons];split
   ·exact .inl rfl
   ·exact .inr rfl
  have key:∀ {a w},Kg P ops Q (Vh i nc) b a w→Kg P ops Q (Vh i (m::nc)) b a w:=fun h=>by
   rcases hs with e | e<;>rw [e]
   ·exact Kg.add c b h
   ·exact h
  have f:∀ {w},ib (Vh i nc) w→ib (Vh i (m::nc)) w:=fun h=>by
   rcases hs with e | e<;>rw [e]
   ·exact ⟨c _,h⟩
   ·exact h
  simp only [Kg] at h ⊢;cases d:ops[i]? with
  | none=>rw [d] at h; exact key h
  | some o =>
   rw [d] at h;simp only at h ⊢;split
   ·rename_i hw;rw [if_pos hw] at h;rcases h with h | h
    ·exact .inl (Ty h fun a w ⟨g,j⟩=>⟨f g,key j⟩)
    ·exact .inr h
   ·rename_i hw;rw [if_neg hw] at h;exact key h
theorem Ow {nc:List Mon}{m:Mon}{R:List Nat}(b:∀ w,m.2 w) (h:gf P ops Q nc R fr ds w):gf P ops Q (m::nc) R fr ds w:=⟨fun c a d=>Kg.add b a (h.out c.2 a d)⟩
theorem Qh {nc:List Mon}{R R':List Nat}{i:Nat}(S:List Nat){dst:Tmp}{op:Op}{ty:TypeId}{pos:String}{after:Array Edge}{v:Value}(a:vk Q dst) (b:(decide R.Nodup && enabled ops R i && waits ops R S i && Nk ops S R i && S.contains i)=true) (c:R.erase i=R') (d:ops[i]?=some ⟨some dst,op,ty,pos,after,none⟩)
  (Ab:Of P ⟨some dst,op,ty,pos,after,none⟩ fr v) (e:Hc fr dst v Fa) (h:gf P ops Q nc R' Fa ds w):gf P ops Q nc R fr ds w :=
 Gs S (fun _=>True) (wt:=true) a b c d (Vb rfl) (fun h=>by cases h) trivial (fun _ ds w' _=>Ab.out ds w') e (Ow (fun _=>trivial) h)
theorem ij {nc:List Mon}{R R':List Nat}{i j d:Nat}{b:Bool}(S:List Nat){dst:Tmp}{op:Op}{ty:TypeId}{pos:String}{after:Array Edge}{v:Value}(a:vk Q dst) (c:(decide R.Nodup && enabled ops R i && waits ops R S i && Nk ops S R i && S.contains i)=true) (e:R.erase i=R') (f:ops[i]?=some ⟨some dst,op,ty,pos,after,some (j,b)⟩) (g:(ops[j]?).bind (·.dst)=some d) (qa:hc fr d (.bool b))
  (Ab:Of P ⟨some dst,op,ty,pos,after,some (j,b)⟩ fr v) (k:Hc fr dst v Fa) (h:gf P ops Q nc R' Fa ds w):gf P ops Q nc R fr ds w :=
 Gs S (fun _=>True) (wt:=true) a c e f (qy rfl g qa) (fun h=>by cases h) trivial (fun _ ds w' _=>Ab.out ds w') k (Ow (fun _=>trivial) h)
theorem rf {nc:List Mon}{R R':List Nat}{i j d:Nat}{b Ke:Bool}(S:List Nat){dst:Tmp}{op:Op}{ty:TypeId}{pos:String}{after:Array Edge}(a:vk Q dst) (c:(decide R.Nodup && enabled ops R i && waits ops R S i && Nk ops S R i && S.contains i)=true) (e:R.erase i=R') (f:ops[i]?=some ⟨some dst,op,ty,pos,after,some (j,b)⟩) (g:(ops[j]?).bind (·.dst)=some d) (qa:hc fr d (.bool Ke)) (k:(Ke == b)=false)
  (l:Hc fr dst undef Fa) (h:gf P ops Q nc R' Fa ds w):gf P ops Q nc R fr ds w :=
 Gs S (fun _=>True) (wt:=false) a c e f ((AB rfl g qa).trans k) (fun _=>rfl) trivial (fun h=>by cases h) l (Ow (fun _=>trivial) h)
theorem UH {nc:List Mon}{R R':List Nat}{i j d:Nat}{b:Bool}(S:List Nat){dst:Tmp}{op:Op}{ty:TypeId}{pos:String}{after:Array Edge}(a:vk Q dst) (c:(decide R.Nodup && enabled ops R i && waits ops R S i && Nk ops S R i && S.contains i)=true) (e:R.erase i=R') (f:ops[i]?=some ⟨some dst,op,ty,pos,after,some (j,b)⟩) (g:(ops[j]?).bind (·.dst)=some d) (qa:hc fr d undef)
  (k:Hc fr dst undef Fa) (h:gf P ops Q nc R' Fa ds w):gf P ops Q nc R fr ds w :=
 Gs S (fun _=>True) (wt:=false) a c e f (iG rfl g qa) (fun _=>rfl) trivial (fun h=>by cases h) k (Ow (fun _=>trivial) h)
structure LD (P:Program) (ops:Array Oper) (Q:Exit→Act→World→Prop) (nc:List Mon) (R:List Nat) (fr:List Value) (ds:List Deferred) (w:World):Prop where
 m:ib nc w
 s:gf P ops Q nc R fr ds w
theorem ib.s {m:Mon}{l:List Mon}(h:m.2 w) (k:ib l w):ib (m::l) w:=⟨h,k⟩
theorem ib.z:ib [] w:=trivial
theorem VH {nc:List Mon}{R:List Nat}(c:R≠[]) (h:∀ i ∈ WC ops R,∃ o,ops[i]?=some o∧Region.wanted o (yielded ops (F fr ds).tmps)=true∧De P o fr ds w (LD P ops Q (Vh i nc) (R.erase i)) Q):gf P ops Q nc R fr ds w:=⟨fun k d e=>by
 cases e with
 | z=>exact absurd rfl c
 | @s _ d i b f =>
  obtain ⟨o,g,hw,j⟩:=h i (List.mem_filter.2 ⟨Kr b,b⟩);simp only [Kg,g];rw [if_pos hw];exact .inl (j.out _ fun Fa ds' w' a=>⟨a.m,a.s.out a.m _ f⟩)⟩
theorem Xb {nc Ns':List Mon}{R:List Nat}{i:Nat}{R':List Nat}{o:Oper}(b:WC ops R=[i]) (c:R.erase i=R') (ya:Vh i nc=Ns') (d:ops[i]?=some o) (hw:Region.wanted o (yielded ops (F fr ds).tmps)=true)
  (h:De P o fr ds w (LD P ops Q Ns' R') Q):gf P ops Q nc R fr ds w :=
 VH (by intro e;subst e;cases b) fun k a=>by
  rw [b] at a;simp at a;subst a;exact ⟨_,d,hw,by rw [c,ya];exact h⟩
theorem DD {nc:List Mon}{R:List Nat}{th uh:List Value}{d:Nat}{b:Bool}(qa:hc fr d (.bool b)) (a:Hc fr d (.bool true) th) (c:Hc fr d (.bool false) uh)
  (e:b=true→gf P ops Q nc R th ds w) (f:¬ b=true→gf P ops Q nc R uh ds w):gf P ops Q nc R fr ds w:=by
 cases b with
 | true=>have:=e rfl; rw [Hc.same qa a] at this; exact this
 | false=>have:=f (by simp); rw [Hc.same qa c] at this; exact this
theorem UJ {nc:List Mon}{R:List Nat}{th uh:List Value}{d:Nat}{p:Prop}[Decidable p] (qa:hc fr d (.bool (decide p))) (a:Hc fr d (.bool true) th) (b:Hc fr d (.bool false) uh)
  (c:p→gf P ops Q nc R th ds w) (e:¬ p→gf P ops Q nc R uh ds w):gf P ops Q nc R fr ds w :=
 DD qa a b (fun h=>c (of_decide_eq_true h)) (fun h=>e fun f=>h (decide_eq_true f))
end
end Go.oc
namespace Go.sd
open Go.oc Go.RowKit
section
variable {P:Program}{Q:Exit→Act→World→Prop}{K:List Value→List Deferred→World→Prop}{fr Fa:List Value}{ds:List Deferred}{w:World}
variable {dst:Option Tmp}{ty:TypeId}{pos:String}{after:Array Edge}{g:Option (Nat×Bool)}
variable {J:World}{rs Lc:List dc}{μ la:M}
variable {T:TypeId}{d:TypeDesc}{ag:Bool}{Vd:List Value}{n m:Nat}
theorem WH {e:TypeId}{S Jd:Nat→Prop}{A:World→Prop}(c:P.underlying T=some (.slice e)) (a:Wc P e ag Vd n m) (d:Sep S Jd J w rs A)
  (h:∀ b w',w.heap.size≤b→Sep S Jd J w' (.ba b e []::rs) A→Mg fr dst (.slice (some ⟨b,0,none⟩) 0 0) fun Fa=>K Fa ds w'):De P (Oper.mk dst (.buildSlice T 0 ⟨[]⟩) ty pos after g) fr ds w K Q:=by
 obtain ⟨Fa,ya⟩:=Ph fr dst (.slice (some ⟨w.heap.size,0,none⟩) 0 0);refine sh (v:=.slice (some ⟨w.heap.size,0,none⟩) 0 0) (w':=w.alloc (.cells ⟨[]⟩ e)) ?_ ya (h _ _ (Nat.le_refl _) (d.alloc rfl (heap_alloc_new w _)) Fa ya);have f:=a.sizeOf (w:=w);obtain ⟨z,i,j⟩:=a.zero (w:=w);simp [execOp,Instr.buildSlice,Sem.run_bind,run_underlying c,Result.andThen_ok,f,newRow,Instr.fill];have Va:Array.range 0=#[]:=Array.eq_empty_of_size_eq_zero (by simp);rw [Va,Array.map_empty]
theorem RD {t ty:TypeId}{sz bytes:Nat}(b:P.underlying t=some (.slice T)) (e:Wc P T ag Vd sz bytes){v:Value}{xs:List Value}(f:Row w v T sz n xs){a:Option Addr}{c:Nat} :
  (Builtin.append_ #[t,t] ty #[v,.slice a 0 c]).run P w=.ok v w:=by
 have d:=e.sizeOf (w:=w);rcases f.2 with ⟨rfl,rfl⟩ | ⟨g,o,cap,cur,rfl,i,h,j,k,l⟩
 ·cases a<;>simp [Builtin.append_,run_underlying b,d,Builtin.lenOf,Builtin.firstCells,loadCells,loadCellsFrom]
 ·cases a<;>simp [Builtin.append_,run_underlying b,d,Builtin.lenOf,Builtin.firstCells,h,storeCells,loadCells,loadCellsFrom]
theorem Uy {α:Type}[Sa α]{t:TypeId}{s x:Operand}{v:Value}{bytes k c:Nat}{a:Option Addr}{cells news:List Value}{l ys Ha:List α}(j:P.underlying t=some (.slice T)) (m:Wc P T ag Vd (Sa.sz α) bytes) (r:Vd.length=Sa.sz α)
  (hs:zb fr s v) (n:zb fr x (.slice a ys.length c)) (f:ka μ J w rs) (qa:hc rs k (.row v T (Sa.sz α) l.length cells)) (u:ys≠[]→∃ b o,a=some ⟨b,o,none⟩∧Ec μ b o news) (d:ua μ news ys) (y:app l ys=some Ha) (z:bytes≤4096)
  (h:∀ i w' Lc,Hc rs k (.row i T (Sa.sz α) Ha.length (cells++news)) Lc→ka μ J w' Lc→Mg fr dst i fun Fa=>K Fa ds w') :
  De P (Oper.mk dst (.call { callee:=.builtin .append,args:=#[s,x],argTypes:=#[t,t] }) ty pos after g) fr ds w K Q:=by
 obtain ⟨p,A⟩:=Iy y;by_cases q:ys=[]
 ·subst q;obtain rfl:news=[]:=d;have B:Row w v T (Sa.sz α) l.length cells:=f.get qa;obtain ⟨Fa,ya⟩:=Ph fr dst v;have C:=h v w rs (by
   have:Ha.length=l.length:=by simpa using p
   rw [this,List.append_nil];unfold Hc;obtain ⟨D,e⟩:=List.getElem?_eq_some_iff.1 (show rs[k]?=_ from qa);rw [← e];exact List.set_getElem_self D) f
  refine sh (v:=v) (w':=w) ?_ ya (C Fa ya);have na:=hs ds;have E:=n ds;have d:=RD (P:=P) (ty:=ty) (a:=a) (c:=c) j m B;simp [execOp,resolve,invoke,builtin,na,E,d]
 ·obtain ⟨b,o,rfl,F⟩:=u q;exact my j m (by simp [r,Sa.pos]) hs n f qa (F _ f.a) d.len d.ei ⟨A,z⟩ fun i w' Lc G=>h i w' Lc (by rw [p];exact G)
end
end Go.sd
