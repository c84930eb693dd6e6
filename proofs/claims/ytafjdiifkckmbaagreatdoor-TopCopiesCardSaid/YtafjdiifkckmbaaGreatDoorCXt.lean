/- Texts of Xt. -/
import Derived.Test.YtafjdiifkckmbaaGreatDoorCWk
import Derived.LoopN
import Derived.KernelRfl
set_option linter.unusedSimpArgs false
set_option linter.unusedVariables false
set_option linter.unusedSectionVars false
namespace Go.Re
open Go.Bc Go.RowKit
abbrev M:=World->Prop
def ha (μ J:M):Prop:=∀ w,J w->μ w
theorem ha.r {μ:M}:ha μ μ:=λ_ h=>h
theorem ha.t {a b c:M}(h:ha a b) (k:ha b c):ha a c:=λw x=>h w (k w x)
abbrev fa (μ:M) (da w:World) (rs:List Ha):Prop:=Sep (λ_=>False) (λ_=>True) da w rs μ
def xa (μ:M) (b o:Nat) (cs:List Value):Prop:=∀ w,μ w->dj w b o cs
theorem xa.up {μ J:M}{b o:Nat}{cs:List Value}(h:xa μ b o cs) (l:ha μ J):xa J b o cs:=λw k=>h w (l w k)
class Ja (α:Type) where
 sz:Nat
 pos:0<sz
 cs:M->List Value->α->Prop
 Qh:∀ {μ:M}{l:List Value}{x:α},cs μ l x->l.length=sz
 up:∀ {μ J:M}{l:List Value}{x:α},ha μ J->cs μ l x->cs J l x
 fg:∀ {μ:M}{l:List Value}{x:α},cs μ l x->l.all ae=true
structure ic {α:Type}(sz:Nat) (R:List Value->α->Prop) (μ:M) (a:Option Addr) (c:Nat) (xs:List α):Prop where
 le:xs.length<=c
 cap:c<=maxLen
 el:xs=[]\/∃ b o,a=some ⟨b,o,none⟩/\∃ g:Nat->List Value,∀ i x,xs[i]?=some x->xa μ b (o+i*sz) (g i)/\R (g i) x
abbrev za {α:Type}[Ja α] (μ:M) (a:Option Addr) (c:Nat) (xs:List α):Prop:=ic (Ja.sz α) (Ja.cs μ) μ a c xs
theorem ic.imp {α:Type}{sz:Nat}{R R':List Value->α->Prop}{μ J:M}{a:Option Addr}{c:Nat}{xs:List α}(h:ic sz R μ a c xs) (l:ha μ J) (f:∀ (i:Nat) (cs:List Value) (x:α),xs[i]?=some x->R cs x->R' cs x):ic sz R' J a c xs where
 le:=h.le
 cap:=h.cap
 el:=by
  rcases h.el with h | ⟨b,o,j,g,e⟩
  ·exact .inl h
  ·exact .inr ⟨b,o,j,g,λi x d=>⟨(e i x d).1.up l,f i _ x d (e i x d).2⟩⟩
theorem za.up {α:Type}[Ja α]{μ J:M}{a:Option Addr}{c:Nat}{xs:List α}(h:za μ a c xs) (l:ha μ J):za J a c xs:=ic.imp h l λ_ _ _ _=>Ja.up l
theorem za.nil {α:Type}[Ja α]{μ:M}{a:Option Addr}:za (α:=α) μ a 0 []:=⟨by simp,by simp,.inl rfl⟩
theorem za.len {α:Type}{sz:Nat}{R:List Value->α->Prop}{μ:M}{a:Option Addr}{c:Nat}{xs:List α}(h:ic sz R μ a c xs):xs.length<=9223372036854775807:=Nat.le_trans h.le h.cap
instance:Ja Int where
 sz:=1
 pos:=by decide
 cs _ l x:=l=[.int .i64 x]
 Qh h:=by rw [h];rfl
 up _ h:=h
 fg h:=by rw [h];rfl
instance:Ja Bool where
 sz:=1
 pos:=by decide
 cs _ l x:=l=[.bool x]
 Qh h:=by rw [h];rfl
 up _ h:=h
 fg h:=by rw [h];rfl
instance {α:Type}[Ja α]:Ja (List α) where
 sz:=1
 pos:=by decide
 cs μ l xs:=∃ a c,l=[.slice a xs.length c]/\za μ a c xs
 Qh h:=by obtain ⟨a,c,rfl,-⟩:=h;rfl
 up l h:=by obtain ⟨a,c,b,d⟩:=h;exact ⟨a,c,b,d.up l⟩
 fg h:=by obtain ⟨a,c,rfl,-⟩:=h;rfl
instance:Ja (List UInt8) where
 sz:=1
 pos:=by decide
 cs _ l x:=l=[S x]
 Qh h:=by rw [h];rfl
 up _ h:=h
 fg h:=by rw [h];rfl
def i64 (n:Int):Option Int:=if -9223372036854775808<=n/\n<=9223372036854775807 then some n else none
def fm (n:Int):Int:=IntKind.i64.wrap n
def at_ {α:Type}(l:List α) (i:Int):Option α:=if 0<=i then l[i.toNat]? else none
def cut {α:Type}(l:List α) (i j:Int):Option (List α):=if 0<=i/\i<=j/\j<=l.length then some ((l.take j.toNat).drop i.toNat) else none
def cat (a b:List UInt8):Option (List UInt8):=if a.length+b.length<=9223372036854775807 then some (a++b) else none
def app {α:Type}(l:List α) (xs:List α):Option (List α):=if l.length+xs.length<=4294967296 then some (l++xs) else none
def quo (a b:Int):Option Int:=if b=0 then none else some (fm (a.tdiv b))
theorem te {α β:Type}{o:Option α}{f:α->Option β}{r:β}(h:Option.bind o f=some r):∃ x,o=some x/\f x=some r:=Option.bind_eq_some_iff.1 h
theorem Sf {α:Type}{c:Prop}[Decidable c]{x y:α}{r:α}(a:c) (h:(if c then x else y)=r):x=r:=by rwa [if_pos a] at h
theorem Eb {α:Type}{c:Prop}[Decidable c]{x y:α}{r:α}(a:¬ c) (h:(if c then x else y)=r):y=r:=by rwa [if_neg a] at h
theorem vS {n x:Int}(h:i64 n=some x):x=n/\-9223372036854775808<=n/\n<=9223372036854775807:=by
 unfold i64 at h;split at h
 ·rename_i a;exact ⟨(Option.some.inj h).symm,a⟩
 ·cases h
theorem NI {n x:Int}(h:i64 n=some x):IntKind.i64.wrap n=x:=by
 obtain ⟨rfl,a,b⟩:=vS h;exact wr (by omega)
theorem Ju {α:Type}{l:List α}{i:Int}{x:α}(h:at_ l i=some x):0<=i/\i<l.length/\l[i.toNat]?=some x:=by
 unfold at_ at h;split at h
 ·rename_i a;refine ⟨a,?_,h⟩;have:=(List.getElem?_eq_some_iff.1 h).1;omega
 ·cases h
theorem Yv {α:Type}{l ys:List α}{i j:Int}(h:cut l i j=some ys):(0<=i/\i<=j/\j<=l.length)/\ys=(l.take j.toNat).drop i.toNat:=by
 unfold cut at h;split at h
 ·rename_i a;exact ⟨a,(Option.some.inj h).symm⟩
 ·cases h
theorem wS {a b c:List UInt8}(h:cat a b=some c):c=a++b/\a.length+b.length<=9223372036854775807:=by
 unfold cat at h;split at h
 ·rename_i d;exact ⟨(Option.some.inj h).symm,d⟩
 ·cases h
theorem Eu {α:Type}{a b c:List α}(h:app a b=some c):c=a++b/\a.length+b.length<=4294967296:=by
 unfold app at h;split at h
 ·rename_i d;exact ⟨(Option.some.inj h).symm,d⟩
 ·cases h
structure Dk (v:Value) (sz:Nat) (i:Int) (b o:Nat):Prop where
 out:∃ a n c,v=.slice (some ⟨b,a,none⟩) n c/\0<=i/\i<n/\a+i.toNat*sz=o
theorem ic.elem {α:Type}{sz:Nat}{R:List Value->α->Prop}{μ:M}{a:Option Addr}{c:Nat}{xs:List α}{i:Int}{x:α}(h:ic sz R μ a c xs) (g:at_ xs i=some x) :
  ∃ b o cs,Dk (.slice a xs.length c) sz i b o/\xa μ b o cs/\R cs x:=by
 obtain ⟨j,k,d⟩:=Ju g;rcases h.el with rfl | ⟨b,o,rfl,f,e⟩
 ·simp at d
 ·exact ⟨b,_,f i.toNat,⟨o,_,_,rfl,j,k,rfl⟩,(e _ _ d).1,(e _ _ d).2⟩
def qa {α:Type}[Ja α] (μ:M):List Value->List α->Prop
 | cells,[]=>cells=[]
 | cells,x::l=>∃ cs t,cells=cs++t/\Ja.cs μ cs x/\qa μ t l
theorem qa.len {α:Type}[Ja α]{μ:M}:∀ {l:List α}{cells:List Value},qa μ cells l->cells.length=l.length*Ja.sz α
 | [],cells,h=>by rw [qa] at h; simp [h]
 | x::l,cells,h=>by
  rw [qa] at h;obtain ⟨cs,t,rfl,a,b⟩:=h;simp [qa.len b,Ja.Qh a,Nat.add_mul,Nat.add_comm]
theorem qa.up {α:Type}[Ja α]{μ J:M}(la:ha μ J):∀ {l:List α}{cells:List Value},qa μ cells l->qa J cells l
 | [],cells,h=>by rw [qa] at h ⊢; exact h
 | x::l,cells,h=>by
  rw [qa] at h ⊢;obtain ⟨cs,t,a,b,c⟩:=h;exact ⟨cs,t,a,Ja.up la b,qa.up la c⟩
theorem qa.cat {α:Type}[Ja α]{μ:M}{Aa:List α}{a:List Value}(k:qa μ a Aa):∀ {l:List α}{cells:List Value},qa μ cells l->qa μ (cells++a) (l++Aa)
 | [],cells,h=>by rw [qa] at h; subst h; exact k
 | x::l,cells,h=>by
  rw [qa] at h;obtain ⟨cs,t,rfl,b,c⟩:=h;rw [List.cons_append,qa];exact ⟨cs,t++a,by simp,b,qa.cat k c⟩
theorem qa.nil {α:Type}[Ja α]{μ:M}:qa μ [] ([]:List α):=rfl
theorem qa.one {α:Type}[Ja α]{μ:M}{cs:List Value}{x:α}(h:Ja.cs μ cs x):qa μ cs [x]:=⟨cs,[],by simp,h,rfl⟩
theorem qa.cons {α:Type}[Ja α]{μ:M}{cs t:List Value}{x:α}{l:List α}(h:Ja.cs μ cs x) (k:qa μ t l):qa μ (cs++t) (x::l):=⟨cs,t,rfl,h,k⟩
theorem qa.fg {α:Type}[Ja α]{μ:M}:∀ {l:List α}{cells:List Value},qa μ cells l->cells.all ae=true
 | [],cells,h=>by rw [qa] at h; simp [h]
 | x::l,cells,h=>by
  rw [qa] at h;obtain ⟨cs,t,rfl,a,b⟩:=h;rw [List.all_append,Ja.fg a,qa.fg b];rfl
theorem qa.get {α:Type}[Ja α]{μ:M}:∀ {l:List α}{cells:List Value}{i:Nat}{x:α},qa μ cells l->l[i]?=some x->Ja.cs μ ((cells.drop (i*Ja.sz α)).take (Ja.sz α)) x
 | [],cells,i,x,h,a=>by simp at a
 | y::l,cells,i,x,h,a=>by
  rw [qa] at h;obtain ⟨cs,t,rfl,b,c⟩:=h;cases i with
  | zero=>simp at a; subst a; simp [<- Ja.Qh b]; exact b
  | succ i =>
   simp at a;have:=qa.get c a;have e:(i+1)*Ja.sz α=cs.length+i*Ja.sz α:=by rw [Nat.add_mul,Ja.Qh b];omega
   rw [e,<- List.drop_drop];simpa using this
theorem za.cells {α:Type}[Ja α]{μ:M}{a:Option Addr}{c:Nat}:∀ {xs:List α},za μ a c xs->∃ cells,qa μ cells xs/\(xs≠[]->∃ b o,a=some ⟨b,o,none⟩/\xa μ b o cells):=by
 intro xs h;rcases h.el with rfl | ⟨b,o,rfl,g,p⟩
 ·exact ⟨[],rfl,λh=>absurd rfl h⟩
 ·have key:∀ (l:List α) (k:Nat),xs.drop k=l->∃ cells,qa μ cells l/\xa μ b (o+k*Ja.sz α) cells:=by
   intro l
   induction l with
   | nil=>intro k _; exact ⟨[],rfl,λw _ j v d=>by simp at d⟩
   | cons x l q =>
    intro k i;have r:xs[k]?=some x:=by
     have:=congrArg (λl=>l[0]?) i;simpa using this
    obtain ⟨cells,e,f⟩:=q (k+1) (by rw [<- List.tail_drop,i];rfl);obtain ⟨s,m⟩:=p k x r;refine ⟨g k++cells,qa.cons m e,λw n j v d=>?_⟩;rcases Nat.lt_or_ge j (g k).length with la | la
    ·rw [List.getElem?_append_left la] at d;exact s w n j v d
    ·rw [List.getElem?_append_right la] at d;have:=f w n _ v d;rw [Ja.Qh m] at this la;rw [show o+(k+1)*Ja.sz α+(j - Ja.sz α)=o+k*Ja.sz α+j by rw [Nat.add_mul];omega] at this;exact this
  obtain ⟨cells,e,f⟩:=key xs 0 rfl;exact ⟨cells,e,λ_=>⟨b,o,rfl,by simpa using f⟩⟩
section
variable {P:Program}{Q:Exit->Act->World->Prop}{K:List Value->List Deferred->World->Prop}{fr ya:List Value}{ds:List Deferred}{w:World}
variable {dst:Option Tmp}{ty:TypeId}{pos:String}{after:Array Edge}{g:Option (Nat×Bool)}
variable {da:World}{rs rs':List Ha}{μ:M}
variable {T:TypeId}{d:TypeDesc}{mc:Bool}{zc:List Value}{n m:Nat}
theorem fB {c:Code}(f:List Nat) (i:f.Nodup) (d:List hb->World->Prop) (j:∀ m w,d m w->opens m=f)
  (h:ud P c (Exit.then (λn w'=>∃ m ya,n=F ya ds/\We m fr ya/\d m w') Q) fr ds w)
  (k:∀ m t w,d m w->Q .normal (F (ni t m fr) ds) w):ud P c Q fr ds w:=⟨
 wp_mono h.out λe a w' b=>by
  cases e with
  | normal =>
   obtain ⟨m,ya,rfl,o,g⟩:=b;obtain ⟨cb,p⟩:=o.ex (by rw [j m w' g];exact i);have:=k m cb w' g;rw [<- p] at this;exact this
  | exit id=>exact b
  | goto l=>exact b
  | ret=>exact b
  | panic q=>exact b
  | outgrown=>exact b⟩
theorem qo {c:Code}(f:List Nat) (k:f.Nodup) (b:Nat->List hb->World->Prop) (h:∀ n m w,b n m w->opens m=f) (vd:Nat) (g:List hb) (l:We g fr fr) (i:b vd g w)
  (round:∀ n m t w,b n m w->ud P c (Exit.then (λo w'=>∃ d e ya,o=F ya ds/\We e fr ya/\b d e w'/\d<n) Q) (ni t m fr) ds w):ud P (.loop c) Q fr ds w:=by
 refine mU (α:={ p:Nat×List hb // opens p.2=f }) f k (λp=>p.1.2) (λp=>p.2) (λp w=>b p.1.1 p.1.2 w) (λp _=>p.1.1) ⟨(vd,g),h vd g w i⟩ l i λp t w q=>?_;refine (round p.1.1 p.1.2 t w q).mono (ZN λa w' ⟨d,e,ya,r,s,j,u⟩=>⟨⟨(d,e),h d e w' j⟩,ya,r,s,j,u⟩)
theorem oj {c:Operand}{x y:Code}{b:Bool}(a:ab fr c (.bool b)) (d:b=true->ud P x Q fr ds w) (e:¬ b=true->ud P y Q fr ds w):ud P (.cond c x y) Q fr ds w :=
 Br a d λh=>e (by rw [h];simp)
theorem Ku {c:Operand}{x y:Code}{b:Bool}(a:ab fr c (.bool (!b))) (d:¬ b=true->ud P x Q fr ds w) (e:b=true->ud P y Q fr ds w):ud P (.cond c x y) Q fr ds w :=
 Br a (λh=>d (by simpa using h)) λh=>e (by simpa using h)
theorem dL {ops:Array Oper}{l:List Oper}{xi yi:List Value}{d:Nat}{b:Bool}(la:Zb fr d (.bool b)) (a:Xb fr d (.bool true) xi) (c:Xb fr d (.bool false) yi)
  (e:b=true->Ee P ops Q l xi ds w) (f:¬ b=true->Ee P ops Q l yi ds w):Ee P ops Q l fr ds w:=DG la a c e λh=>f (by rw [h];simp)
theorem EK {ops:Array Oper}{l:List Oper}{xi yi:List Value}{d:Nat}{b:Bool}(la:Zb fr d (.bool (!b))) (a:Xb fr d (.bool true) xi) (c:Xb fr d (.bool false) yi)
  (e:¬ b=true->Ee P ops Q l xi ds w) (f:b=true->Ee P ops Q l yi ds w):Ee P ops Q l fr ds w:=DG la a c (λh=>e (by simpa using h)) λh=>f (by simpa using h)
inductive Ic:List Ha->Nat->List Ha->Prop where
 | z {rs:List Ha}:Ic rs 0 rs
 | s {a r:Ha} {rs rs':List Ha} {k:Nat} (h:Ic rs k (r::rs')):Ic (a::rs) (k+1) (r::a::rs')
theorem Ic.perm {k:Nat}{rs rs':List Ha}(h:Ic rs k rs'):rs.Perm rs':=by
 induction h with
 | z=>exact .refl _
 | s _ a=>exact (a.cons _).trans (.swap _ _ _)
theorem _root_.Go.Bc.Sep.ia {k:Nat}{S Jc:Nat->Prop}{A:World->Prop}(h:Sep S Jc da w rs A) (a:Ic rs k rs'):Sep S Jc da w rs' A where
 keeps:=h.keeps
 all r d:=h.all r (a.perm.mem_iff.2 d)
 oi:=(a.perm.filterMap _).nodup_iff.1 h.oi
 new b e:=h.new b ((a.perm.filterMap _).mem_iff.2 e)
 Xi:=h.Xi.mono λk _ c=>⟨c.1,λf=>c.2 ((a.perm.filterMap Ha.block).mem_iff.2 f)⟩
theorem _root_.Go.Bc.Sep.UB {r:Ha}{B:World->Prop}(h:fa μ da w (r::rs)) (hB:∀ w,r.holds w->B w):fa (λw=>μ w/\B w) da w rs :=
 Sep.freeze h (d0 (α:=Ha)) ja.z (λ_ _=>.inl trivial) hB
theorem _root_.Go.Bc.Sep.Ri {α:Type}[Ja α]{v:Value}{cells:List Value}{l:List α}(h:fa μ da w (.row v T (Ja.sz α) n cells::rs)) (p:qa μ cells l) (f:l.length=n) :
  ∃ J a c,v=.slice a l.length c/\ha μ J/\za J a c l/\fa J da w rs:=by
 have q:Row w v T (Ja.sz α) n cells:=h.all _ (List.mem_cons_self ..);have k:=Sep.UB (B:=λw=>Row w v T (Ja.sz α) n cells) h λw d=>d;have hle:ha μ (λw=>μ w/\Row w v T (Ja.sz α) n cells):=λw d=>d.1;rcases q.2 with ⟨rfl,rfl⟩ | ⟨g,o,cap,cur,rfl,D,r,s,E,F⟩
 ·obtain rfl:=List.eq_nil_of_length_eq_zero f;exact ⟨_,none,0,rfl,hle,za.nil,k⟩
 ·subst f;refine ⟨_,some ⟨g,o,none⟩,cap,rfl,hle,⟨r,s,.inr ⟨g,o,rfl,λi=>(cells.drop (i*Ja.sz α)).take (Ja.sz α),λi x m=>⟨?_,?_⟩⟩⟩,k⟩
  ·intro G t j u e;obtain ⟨-,y⟩:=t;have z:0<l.length:=by have:=(List.getElem?_eq_some_iff.1 m).1;omega
   obtain ⟨b,H,c,Oa,A⟩:=y.Ln z;simp at Oa;obtain ⟨⟨rfl,rfl⟩,rfl⟩:=Oa;have C:j<Ja.sz α:=by
    have:=(List.getElem?_eq_some_iff.1 e).1;simp at this;omega
   rw [List.getElem?_take_of_lt C,List.getElem?_drop] at e;have:=A _ u e;rw [<- Nat.add_assoc] at this;exact this
  ·exact Ja.up hle<|p.get m
theorem _root_.Go.Bc.Sep.so {α:Type}[Ja α]{b:Nat}{cells:List Value}{l:List α}(h:fa μ da w (.ea b T cells::rs)) (d:qa μ cells l) (e:l.length<=maxLen) :
  ∃ J,ha μ J/\za J (some ⟨b,0,none⟩) l.length l/\fa J da w rs:=by
 have f:=Sep.UB (B:=λw=>Ck w b T cells) h λw a=>a;have hle:ha μ (λw=>μ w/\Ck w b T cells):=λw a=>a.1;refine ⟨_,hle,⟨Nat.le_refl _,e,.inr ⟨b,0,rfl,λi=>(cells.drop<|i*Ja.sz α).take (Ja.sz α),λi x g=>⟨?_,Ja.up hle<|d.get g⟩⟩⟩,f⟩;intro n k j u c;have m:j<Ja.sz α:=by
  have:=(List.getElem?_eq_some_iff.1 c).1;simp at this;omega
 rw [List.getElem?_take_of_lt m,List.getElem?_drop] at c;have:=k.2.cells _ u c;rw [Nat.zero_add] at this ⊢;exact this
theorem _root_.Go.Bc.Sep.Qd {b:Nat}{cells:List Value}(h:fa μ da w (.ea b T cells::rs)):∃ J,ha μ J/\xa J b 0 cells/\fa J da w rs :=
 ⟨_,λ_ a=>a.1,λ_ a=>a.2.cells,Sep.UB (B:=λw=>Ck w b T cells) h λ_ a=>a⟩
theorem _root_.Go.Bc.Sep.Ws {sz:Nat}{b k:Nat}{cells:List Value}{S Jc:Nat->Prop}{A:World->Prop}(h:Sep S Jc da w rs A) (la:Zb rs k (.ea b T cells)) (a:cells.length=n*sz) (c:n<=maxLen)
  (d:Xb rs k (.row (.slice (some ⟨b,0,none⟩) n n) T sz n cells) rs'):Sep S Jc da w rs' A:=by
 have e:Ck w b T cells:=h.get la;refine h.put (b:=b) la rfl rfl d ⟨a,.inr ⟨b,0,n,⟨cells⟩,rfl,e,Nat.le_refl _,c,by simp [a],by simp [<- a]⟩⟩<|Ui.refl _
theorem _root_.Go.Bc.Row.elem {α:Type}[Ja α]{v:Value}{cells:List Value}{l:List α}{i:Int}{x:α}(h:Row w v T (Ja.sz α) n cells) (d:qa μ cells l) (e:l.length=n) (g:at_ l i=some x) :
  ∃ b o cs,Dk v (Ja.sz α) i b o/\(∀ w T,Row w v T (Ja.sz α) n cells->dj w b o cs)/\Ja.cs μ cs x:=by
 obtain ⟨f,k,m⟩:=Ju g;obtain ⟨b,o,c,rfl,s⟩:=h.Ln (by omega);subst e;refine ⟨b,o+i.toNat*Ja.sz α,_,⟨o,_,_,rfl,f,k,rfl⟩,?_,d.get m⟩;intro t y p j u a;obtain ⟨Rc,z,c',Oa,q⟩:=p.Ln (by omega);simp at Oa;obtain ⟨⟨rfl,rfl⟩,rfl⟩:=Oa;have r:j<Ja.sz α:=by
  have:=(List.getElem?_eq_some_iff.1 a).1;simp at this;omega
 rw [List.getElem?_take_of_lt r,List.getElem?_drop] at a;have:=q _ u a;rw [<- Nat.add_assoc] at this;exact this
theorem Rb {x y:Operand}{v:Value}{b o sz:Nat}{k:IntKind}{i:Int}{e:TypeId}(a:P.underlying T=some (.slice e)) (d:wb P e mc zc sz m) (f:ab fr x v) (h:ab fr y (.int k i)) (j:Dk v sz i b o):Af P (Oper.mk dst (.indexAddr T x y) ty pos after g) fr ((.pointer (some ⟨b,o,none⟩))):=by
 obtain ⟨r,n,c,rfl,l,p,q⟩:=j.out;exact Cy a d f h ⟨l,p⟩ q
theorem fp {x y:Operand}{v:Value}{b o sz:Nat}{k:IntKind}{i:Int}{e:TypeId}(a:P.underlying T=some (.slice e)) (c:wb P e mc zc sz m) (d:ab fr x v) (f:ab fr y (.int k i)) (j:Dk v sz i b o) (l:zf fr dst ((.pointer (some ⟨b,o,none⟩))) ya) (h:K ya ds w):pd P (Oper.mk dst (.indexAddr T x y) ty pos after g) fr ds w K Q:=Ob (Rb a c d f j) l h
theorem Fu {x y:Operand}{t cb:TypeId}{a b c:Int}(d:ab fr x (.int .i64 a)) (e:ab fr y (.int .i64 b)) (h:i64 (a+b)=some c):Af P (Oper.mk dst (.binOp .add t x y cb) ty pos after g) fr ((.int .i64 c)):=bB d e (NI h)
theorem uo {x y:Operand}{t cb:TypeId}{a b c:Int}(d:ab fr x (.int .i64 a)) (e:ab fr y (.int .i64 b)) (h:i64 (a+b)=some c) (f:zf fr dst ((.int .i64 c)) ya) (k:K ya ds w):pd P (Oper.mk dst (.binOp .add t x y cb) ty pos after g) fr ds w K Q:=Ob (Fu d e h) f k
theorem Zv {x y:Operand}{t cb:TypeId}{a b c:Int}(d:ab fr x (.int .i64 a)) (e:ab fr y (.int .i64 b)) (h:i64 (a - b)=some c):Af P (Oper.mk dst (.binOp .sub t x y cb) ty pos after g) fr ((.int .i64 c)):=cB d e (NI h)
theorem aw {a b c:Int}(h:quo a b=some c):b≠0/\IntKind.i64.wrap (a.tdiv b)=c:=by
 unfold quo at h;split at h
 ·cases h
 ·rename_i d;exact ⟨d,Option.some.inj h⟩
theorem xS {x y:Operand}{t:TypeId}{k:IntKind}{a:List UInt8}{i:Int}{c:UInt8}(b:P.underlying t=some .string) (d:ab fr x (S a)) (e:ab fr y (.int k i)) (h:at_ a i=some c):Af P (Oper.mk dst (.index t x y) ty pos after g) fr (.int .u8 c.toNat):=tS b d e (Ju h).1 (Ju h).2.2
theorem yS {x y:Operand}{t cb:TypeId}{a b c:List UInt8}(d:ab fr x (S a)) (e:ab fr y (S b)) (h:cat a b=some c):Af P (Oper.mk dst (.binOp .add t x y cb) ty pos after g) fr (S c):=by
 obtain ⟨rfl,la⟩:=wS h;exact vU d e la
structure Zu (v:Value) (sz:Nat) (i j:Option Int) (b:Value):Prop where
 out:∃ a n c,v=.slice a n c/\0<=i.getD 0/\i.getD 0<=j.getD n/\j.getD n<=c/\b=.slice (if c=(i.getD 0).toNat then a else a.map (·.add ((i.getD 0).toNat*sz))) ((j.getD n).toNat - (i.getD 0).toNat) (c - (i.getD 0).toNat)
inductive pC (fr:List Value):Option Operand->Option Int->Prop where
 | n:pC fr none none
 | s {x:Operand} {i:Int} (h:ab fr x (.int .i64 i)):pC fr (some x) (some i)
theorem wo {x:Operand}{jk up:Option Operand}{v q:Value}{sz:Nat}{i j:Option Int}{e:TypeId}(f:P.underlying T=some (.slice e)) (k:wb P e mc zc sz m) (l:ab fr x v) (t:pC fr jk i) (r:pC fr up j) (u:Zu v sz i j q):Af P (Oper.mk dst (.slice T x jk up none) ty pos after g) fr q:=by
 obtain ⟨a,n,c,rfl,o,b,d,rfl⟩:=u.out;refine ⟨λds w=>?_⟩;cases t with
 | n =>
  cases r with
  | n =>
   simp at b d;simp [execOp,l ds,Instr.sliceAt,Instr.slice,run_underlying f,Instr.sliceBounds,k.sizeOf];try rfl
  | s h =>
   rename_i y i;simp at b d;have sa:i<=(c:Int):=d;simp [execOp,l ds,h ds,Instr.sliceAt,Instr.slice,run_underlying f,Instr.sliceBounds,Instr.sliceBound,asIntOf,k.sizeOf,b,sa];try rfl
 | s h =>
  rename_i y i;cases r with
  | n =>
   simp at o b d;simp [execOp,l ds,h ds,Instr.sliceAt,Instr.slice,run_underlying f,Instr.sliceBounds,Instr.sliceBound,asIntOf,k.sizeOf,o,b];try rfl
  | s z =>
   rename_i B p;simp at o b d;have sa:0<=p:=by omega
   have A:(p.toNat:Int)=p:=by omega
   simp [execOp,l ds,h ds,z ds,Instr.sliceAt,Instr.slice,run_underlying f,Instr.sliceBounds,Instr.sliceBound,asIntOf,k.sizeOf,o,b,d,sa,A];try rfl
theorem za.av {α:Type}[Ja α]{μ:M}{a:Option Addr}{c:Nat}{xs ys:List α}{i j:Option Int}(h:za μ a c xs) (g:cut xs (i.getD 0) (j.getD xs.length)=some ys) :
  ∃ e c',Zu (.slice a xs.length c) (Ja.sz α) i j (.slice e ys.length c')/\za μ e c' ys:=by
 obtain ⟨⟨l,m,r⟩,rfl⟩:=Yv g;have hle:=h.le;refine ⟨(if c=(i.getD 0).toNat then a else a.map (·.add ((i.getD 0).toNat*Ja.sz α))),c - (i.getD 0).toNat,⟨a,xs.length,c,rfl,l,m,by omega,?_⟩,?_⟩
 ·rw [show ((xs.take (j.getD ↑xs.length).toNat).drop (i.getD 0).toNat).length=(j.getD ↑xs.length).toNat - (i.getD 0).toNat by simp;omega]
 ·refine ⟨by simp;omega,by have:=h.cap;omega,?_⟩;rcases h.el with rfl | ⟨b,o,rfl,f,n⟩
  ·left;simp
  ·by_cases p:c=(i.getD 0).toNat
   ·left;rw [List.drop_eq_nil_iff];simp;omega
   ·right;rw [if_neg p];refine ⟨b,o+(i.getD 0).toNat*Ja.sz α,by simp [tk],λk=>f ((i.getD 0).toNat+k),λk x d=>?_⟩;rw [List.getElem?_drop] at d;have q:(i.getD 0).toNat+k<(j.getD ↑xs.length).toNat:=by
     have:=(List.getElem?_eq_some_iff.1 d).1;simp at this;omega
    rw [List.getElem?_take_of_lt q] at d;have:=n _ x d;rw [Nat.add_mul,<- Nat.add_assoc] at this;exact this
end
section
variable {P:Program}{Q:Exit->Act->World->Prop}{K:List Value->List Deferred->World->Prop}{fr ya:List Value}{ds:List Deferred}{w:World}
variable {dst:Option Tmp}{ty:TypeId}{pos:String}{after:Array Edge}{g:Option (Nat×Bool)}
variable {da:World}{rs rs':List Ha}{μ:M}
variable {T:TypeId}{d:TypeDesc}{mc:Bool}{zc:List Value}{n m:Nat}
theorem gP {x jk:Operand}{t:TypeId}{a b:List UInt8}{i:Int}(c:P.underlying t=some .string) (d:ab fr x (S a)) (e:ab fr jk (.int .i64 i)) (h:cut a i a.length=some b):Af P (Oper.mk dst (.slice t x (some jk) none none) ty pos after g) fr (S b):=by
 obtain ⟨⟨f,j,k⟩,rfl⟩:=Yv h;have:=JQ (dst:=dst) (ty:=ty) (pos:=pos) (after:=after) (g:=g) c d e ⟨f,j⟩;simpa using this
theorem hP {x up:Operand}{t:TypeId}{a b:List UInt8}{j:Int}(c:P.underlying t=some .string) (d:ab fr x (S a)) (e:ab fr up (.int .i64 j)) (h:cut a 0 j=some b):Af P (Oper.mk dst (.slice t x none (some up) none) ty pos after g) fr (S b):=by
 obtain ⟨⟨k,f,i⟩,rfl⟩:=Yv h;have:=KQ (dst:=dst) (ty:=ty) (pos:=pos) (after:=after) (g:=g) c d e ⟨f,i⟩;simpa using this
theorem _root_.Go.Bc.Row.ae {v:Value}{sz n:Nat}{xs:List Value}(h:Row w v T sz n xs):ae v=true:=by
 rcases h.2 with ⟨rfl,_⟩ | ⟨g,o,cap,cur,rfl,_⟩<;>rfl
theorem SJ {f:Nat}{xs ys:List Operand}{vs us:List Value}(a:Om fr xs vs) (b:Om fr ys us):Af P (Oper.mk dst (.makeFunc (.func f) ⟨xs⟩ ⟨ys⟩) ty pos after g) fr (.func (.func f) ⟨vs⟩ ⟨us⟩):=by
 refine ⟨λds w=>?_⟩;have c:=a ds;have d:=b ds;simp [execOp,Instr.makeFunc,c,d]
theorem qa.app {α:Type}[Ja α]{cells news:List Value}{l xs Aa:List α}(h:qa μ cells l) (k:qa μ news xs) (g:app l xs=some Aa):qa μ (cells++news) Aa:=by
 obtain ⟨rfl,-⟩:=Eu g;exact qa.cat k h
theorem GA {α:Type}{l xs Aa:List α}(g:app l xs=some Aa):Aa.length=l.length+xs.length/\l.length+xs.length<=4294967296:=by
 obtain ⟨rfl,h⟩:=Eu g;exact ⟨by simp,h⟩
theorem Si {α:Type}[Ja α]{t:TypeId}{s x:Operand}{v:Value}{bytes k b d c:Nat}{cells news:List Value}{l ys Aa:List α}(f:P.underlying t=some (.slice T)) (i:wb P T mc zc (Ja.sz α) bytes) (j:zc.length=Ja.sz α)
  (m:ab fr s v) (n:ab fr x (.slice (some ⟨b,0,none⟩) d c)) (o:fa μ da w rs) (la:Zb rs k (.row v T (Ja.sz α) l.length cells)) (p:dj w b 0 news) (e:qa μ news ys) (q:ys.length=d) (r:app l ys=some Aa) (u:bytes<=4096)
  (h:∀ a w' rs',Xb rs k (.row a T (Ja.sz α) Aa.length (cells++news)) rs'->fa μ da w' rs'->Hg fr dst a λya=>K ya ds w') :
  pd P (Oper.mk dst (.call { callee:=.builtin .append,args:=#[s,x],argTypes:=#[t,t] }) ty pos after g) fr ds w K Q:=by
 obtain ⟨y,z⟩:=GA r;subst q;refine su f i (by simp [j,Ja.pos]) m n o la p e.len e.fg ⟨z,u⟩ λa w' rs' A=>h a w' rs' (by rw [y];exact A)
theorem _root_.Go.Bc.dj.jg {b o:Nat}{cs:List Value}(h:dj w b o cs) (i n:Nat):dj w b (o+i) ((cs.drop i).take n):=by
 intro j v a;have c:j<n:=by
  have:=(List.getElem?_eq_some_iff.1 a).1;simp at this;omega
 rw [List.getElem?_take_of_lt c,List.getElem?_drop] at a;have:=h _ v a;rw [<- Nat.add_assoc] at this;exact this
theorem xa.jg {b o:Nat}{cs:List Value}(h:xa μ b o cs) (i n:Nat):xa μ b (o+i) ((cs.drop i).take n):=λw a=>(h w a).jg i n
theorem Nb {x y:Operand}{b k:Nat}{cs vs:List Value}(a:wb P T mc zc n m) (d:ab fr x (.pointer (some ⟨b,0,none⟩))) (e:ab fr y (.agg ⟨vs⟩)) (f:vs.length=n) (i:vs.all ae=true)
  {S Jc:Nat->Prop}{A:World->Prop}(j:Sep S Jc da w rs A) {Ef:TypeId}(la:Zb rs k (.ea b Ef cs)) (p:cs.length=n) (l:Xb rs k (.ea b Ef vs) rs')
  (Ca:zf fr dst undef ya) (h:∀ w',Sep S Jc da w' rs' A->K ya ds w'):pd P (Oper.mk dst (.store T x y) ty pos after g) fr ds w K Q:=by
 have key:∀ (vs cs pre:List Value),vs.length=cs.length->Zg (pre++cs) pre.length vs (pre++vs):=by
  intro vs
  induction vs with
  | nil=>intro cs pre h; cases cs with
   | nil=>exact .z
   | cons c cs=>simp at h
  | cons v vs o =>
   intro cs pre h;cases cs with
   | nil=>simp at h
   | cons c cs =>
    refine .s (cs1:=pre++v::cs) (by unfold Xb;simp) (by simp) ?_;have:=o cs (pre++[v]) (by simpa using h);simpa using this
 exact EE a d e rfl f i j la (by simpa using key vs cs [] (by omega)) (by simp) l Ca h
theorem Zo {pl:Array (Nat×Nat)}{xs:List (Nat×Operand)}{out:List Value}(a:wb P T mc zc n m) (b:Jg P T pl) (c:eb fr pl zc xs out):Af P (Oper.mk dst (.build T ⟨xs⟩) ty pos after g) fr (.agg ⟨out⟩):=by
 refine ⟨λds w=>?_⟩;obtain ⟨z,d,e⟩:=a.zero (w:=w);have f:=c.run (ds:=ds);obtain ⟨l,h,j⟩:=b.out;have k:=j w;have la:((⟨xs⟩:Array (Nat×Operand)).map λ(i,x)=>(i,(F fr ds).eval x)).toList=xs.map λp=>(p.1,(F fr ds).eval p.2):=by simp
 unfold execOp;simp only [Instr.build,Sem.run_bind,d,Result.andThen_ok,run_underlying h];rw [k];simp only [Result.andThen_ok,e,la];rw [f];simp
end
end Go.Re
namespace Go.Bc
theorem oa {α:Type}{a pa b c d a5 zb Ab mb e v:α}{l:List α}{n:Nat}(h:Zb l n v):Zb (a::pa::b::c::d::a5::zb::Ab::mb::e::l) (n+10) v:=h
theorem tb {α:Type}{a pa b c d a5 zb Ab mb e v:α}{l Aa:List α}{n:Nat}(h:Xb l n v Aa):Xb (a::pa::b::c::d::a5::zb::Ab::mb::e::l) (n+10) v (a::pa::b::c::d::a5::zb::Ab::mb::e::Aa):=by unfold Xb at *;subst h;rfl
theorem Da {α:Type}{a pa b c d a5 zb Ab mb e gd jc f g Ub yd i Ac j k v:α}{l:List α}{n:Nat}(h:Zb l n v):Zb (a::pa::b::c::d::a5::zb::Ab::mb::e::gd::jc::f::g::Ub::yd::i::Ac::j::k::l) (n+20) v:=h
theorem Fc {α:Type}{a pa b c d a5 zb Ab mb e gd jc f g Ub yd i Ac j k v:α}{l Aa:List α}{n:Nat}(h:Xb l n v Aa):Xb (a::pa::b::c::d::a5::zb::Ab::mb::e::gd::jc::f::g::Ub::yd::i::Ac::j::k::l) (n+20) v (a::pa::b::c::d::a5::zb::Ab::mb::e::gd::jc::f::g::Ub::yd::i::Ac::j::k::Aa):=by unfold Xb at *;subst h;rfl
theorem Ma {α:Type}{a pa b c d a5 zb Ab mb e gd jc f g Ub yd i Ac j k m o p q r s t u w x v:α}{l:List α}{n:Nat}(h:Zb l n v):Zb (a::pa::b::c::d::a5::zb::Ab::mb::e::gd::jc::f::g::Ub::yd::i::Ac::j::k::m::o::p::q::r::s::t::u::w::x::l) (n+30) v:=h
theorem Qe {α:Type}{a pa b c d a5 zb Ab mb e gd jc f g Ub yd i Ac j k m o p q r s t u w x v:α}{l Aa:List α}{n:Nat}(h:Xb l n v Aa):Xb (a::pa::b::c::d::a5::zb::Ab::mb::e::gd::jc::f::g::Ub::yd::i::Ac::j::k::m::o::p::q::r::s::t::u::w::x::l) (n+30) v (a::pa::b::c::d::a5::zb::Ab::mb::e::gd::jc::f::g::Ub::yd::i::Ac::j::k::m::o::p::q::r::s::t::u::w::x::Aa):=by unfold Xb at *;subst h;rfl
theorem Wa {α:Type}{a pa b c d a5 zb Ab mb e gd jc f g Ub yd i Ac j k m o p q r s t u w x y z A B C D E F G H v:α}{l:List α}{n:Nat}(h:Zb l n v):Zb (a::pa::b::c::d::a5::zb::Ab::mb::e::gd::jc::f::g::Ub::yd::i::Ac::j::k::m::o::p::q::r::s::t::u::w::x::y::z::A::B::C::D::E::F::G::H::l) (n+40) v:=h
theorem Ce {α:Type}{a pa b c d a5 zb Ab mb e gd jc f g Ub yd i Ac j k m o p q r s t u w x y z A B C D E F G H v:α}{l Aa:List α}{n:Nat}(h:Xb l n v Aa):Xb (a::pa::b::c::d::a5::zb::Ab::mb::e::gd::jc::f::g::Ub::yd::i::Ac::j::k::m::o::p::q::r::s::t::u::w::x::y::z::A::B::C::D::E::F::G::H::l) (n+40) v (a::pa::b::c::d::a5::zb::Ab::mb::e::gd::jc::f::g::Ub::yd::i::Ac::j::k::m::o::p::q::r::s::t::u::w::x::y::z::A::B::C::D::E::F::G::H::Aa):=by unfold Xb at *;subst h;rfl
theorem ub {α:Type}{a pa b c d a5 zb Ab mb e gd jc f g Ub yd i Ac j k m o p q r s t u w x y z A B C D E F G H K L M N O P Q R S T v:α}{l:List α}{n:Nat}(h:Zb l n v):Zb (a::pa::b::c::d::a5::zb::Ab::mb::e::gd::jc::f::g::Ub::yd::i::Ac::j::k::m::o::p::q::r::s::t::u::w::x::y::z::A::B::C::D::E::F::G::H::K::L::M::N::O::P::Q::R::S::T::l) (n+50) v:=h
theorem pf {α:Type}{a pa b c d a5 zb Ab mb e gd jc f g Ub yd i Ac j k m o p q r s t u w x y z A B C D E F G H K L M N O P Q R S T v:α}{l Aa:List α}{n:Nat}(h:Xb l n v Aa):Xb (a::pa::b::c::d::a5::zb::Ab::mb::e::gd::jc::f::g::Ub::yd::i::Ac::j::k::m::o::p::q::r::s::t::u::w::x::y::z::A::B::C::D::E::F::G::H::K::L::M::N::O::P::Q::R::S::T::l) (n+50) v (a::pa::b::c::d::a5::zb::Ab::mb::e::gd::jc::f::g::Ub::yd::i::Ac::j::k::m::o::p::q::r::s::t::u::w::x::y::z::A::B::C::D::E::F::G::H::K::L::M::N::O::P::Q::R::S::T::Aa):=by unfold Xb at *;subst h;rfl
theorem fc {α:Type}{a pa b c d a5 zb Ab mb e gd jc f g Ub yd i Ac j k m o p q r s t u w x y z A B C D E F G H K L M N O P Q R S T U V W X Y Z bb Gb gc lc v:α}{l:List α}{n:Nat}(h:Zb l n v):Zb (a::pa::b::c::d::a5::zb::Ab::mb::e::gd::jc::f::g::Ub::yd::i::Ac::j::k::m::o::p::q::r::s::t::u::w::x::y::z::A::B::C::D::E::F::G::H::K::L::M::N::O::P::Q::R::S::T::U::V::W::X::Y::Z::bb::Gb::gc::lc::l) (n+60) v:=h
theorem Qf {α:Type}{a pa b c d a5 zb Ab mb e gd jc f g Ub yd i Ac j k m o p q r s t u w x y z A B C D E F G H K L M N O P Q R S T U V W X Y Z bb Gb gc lc v:α}{l Aa:List α}{n:Nat}(h:Xb l n v Aa):Xb (a::pa::b::c::d::a5::zb::Ab::mb::e::gd::jc::f::g::Ub::yd::i::Ac::j::k::m::o::p::q::r::s::t::u::w::x::y::z::A::B::C::D::E::F::G::H::K::L::M::N::O::P::Q::R::S::T::U::V::W::X::Y::Z::bb::Gb::gc::lc::l) (n+60) v (a::pa::b::c::d::a5::zb::Ab::mb::e::gd::jc::f::g::Ub::yd::i::Ac::j::k::m::o::p::q::r::s::t::u::w::x::y::z::A::B::C::D::E::F::G::H::K::L::M::N::O::P::Q::R::S::T::U::V::W::X::Y::Z::bb::Gb::gc::lc::Aa):=by unfold Xb at *;subst h;rfl
theorem Gc {α:Type}{a pa b c d a5 zb Ab mb e gd jc f g Ub yd i Ac j k m o p q r s t u w x y z A B C D E F G H K L M N O P Q R S T U V W X Y Z bb Gb gc lc rc fd id md nd rd wd Fd Id be v:α}{l:List α}{n:Nat}(h:Zb l n v):Zb (a::pa::b::c::d::a5::zb::Ab::mb::e::gd::jc::f::g::Ub::yd::i::Ac::j::k::m::o::p::q::r::s::t::u::w::x::y::z::A::B::C::D::E::F::G::H::K::L::M::N::O::P::Q::R::S::T::U::V::W::X::Y::Z::bb::Gb::gc::lc::rc::fd::id::md::nd::rd::wd::Fd::Id::be::l) (n+70) v:=h
theorem cg {α:Type}{a pa b c d a5 zb Ab mb e gd jc f g Ub yd i Ac j k m o p q r s t u w x y z A B C D E F G H K L M N O P Q R S T U V W X Y Z bb Gb gc lc rc fd id md nd rd wd Fd Id be v:α}{l Aa:List α}{n:Nat}(h:Xb l n v Aa):Xb (a::pa::b::c::d::a5::zb::Ab::mb::e::gd::jc::f::g::Ub::yd::i::Ac::j::k::m::o::p::q::r::s::t::u::w::x::y::z::A::B::C::D::E::F::G::H::K::L::M::N::O::P::Q::R::S::T::U::V::W::X::Y::Z::bb::Gb::gc::lc::rc::fd::id::md::nd::rd::wd::Fd::Id::be::l) (n+70) v (a::pa::b::c::d::a5::zb::Ab::mb::e::gd::jc::f::g::Ub::yd::i::Ac::j::k::m::o::p::q::r::s::t::u::w::x::y::z::A::B::C::D::E::F::G::H::K::L::M::N::O::P::Q::R::S::T::U::V::W::X::Y::Z::bb::Gb::gc::lc::rc::fd::id::md::nd::rd::wd::Fd::Id::be::Aa):=by unfold Xb at *;subst h;rfl
theorem Pc {α:Type}{a pa b c d a5 zb Ab mb e gd jc f g Ub yd i Ac j k m o p q r s t u w x y z A B C D E F G H K L M N O P Q R S T U V W X Y Z bb Gb gc lc rc fd id md nd rd wd Fd Id be ce ge ne Ne of wf If dg rg bi v:α}{l:List α}{n:Nat}(h:Zb l n v):Zb (a::pa::b::c::d::a5::zb::Ab::mb::e::gd::jc::f::g::Ub::yd::i::Ac::j::k::m::o::p::q::r::s::t::u::w::x::y::z::A::B::C::D::E::F::G::H::K::L::M::N::O::P::Q::R::S::T::U::V::W::X::Y::Z::bb::Gb::gc::lc::rc::fd::id::md::nd::rd::wd::Fd::Id::be::ce::ge::ne::Ne::of::wf::If::dg::rg::bi::l) (n+80) v:=h
theorem Hi {α:Type}{a pa b c d a5 zb Ab mb e gd jc f g Ub yd i Ac j k m o p q r s t u w x y z A B C D E F G H K L M N O P Q R S T U V W X Y Z bb Gb gc lc rc fd id md nd rd wd Fd Id be ce ge ne Ne of wf If dg rg bi v:α}{l Aa:List α}{n:Nat}(h:Xb l n v Aa):Xb (a::pa::b::c::d::a5::zb::Ab::mb::e::gd::jc::f::g::Ub::yd::i::Ac::j::k::m::o::p::q::r::s::t::u::w::x::y::z::A::B::C::D::E::F::G::H::K::L::M::N::O::P::Q::R::S::T::U::V::W::X::Y::Z::bb::Gb::gc::lc::rc::fd::id::md::nd::rd::wd::Fd::Id::be::ce::ge::ne::Ne::of::wf::If::dg::rg::bi::l) (n+80) v (a::pa::b::c::d::a5::zb::Ab::mb::e::gd::jc::f::g::Ub::yd::i::Ac::j::k::m::o::p::q::r::s::t::u::w::x::y::z::A::B::C::D::E::F::G::H::K::L::M::N::O::P::Q::R::S::T::U::V::W::X::Y::Z::bb::Gb::gc::lc::rc::fd::id::md::nd::rd::wd::Fd::Id::be::ce::ge::ne::Ne::of::wf::If::dg::rg::bi::Aa):=by unfold Xb at *;subst h;rfl
theorem zd {α:Type}{a pa b c d a5 zb Ab mb e gd jc f g Ub yd i Ac j k m o p q r s t u w x y z A B C D E F G H K L M N O P Q R S T U V W X Y Z bb Gb gc lc rc fd id md nd rd wd Fd Id be ce ge ne Ne of wf If dg rg bi ci ii li pi Pi dl el nl ol pl v:α}{l:List α}{n:Nat}(h:Zb l n v):Zb (a::pa::b::c::d::a5::zb::Ab::mb::e::gd::jc::f::g::Ub::yd::i::Ac::j::k::m::o::p::q::r::s::t::u::w::x::y::z::A::B::C::D::E::F::G::H::K::L::M::N::O::P::Q::R::S::T::U::V::W::X::Y::Z::bb::Gb::gc::lc::rc::fd::id::md::nd::rd::wd::Fd::Id::be::ce::ge::ne::Ne::of::wf::If::dg::rg::bi::ci::ii::li::pi::Pi::dl::el::nl::ol::pl::l) (n+90) v:=h
theorem Ah {α:Type}{a pa b c d a5 zb Ab mb e gd jc f g Ub yd i Ac j k m o p q r s t u w x y z A B C D E F G H K L M N O P Q R S T U V W X Y Z bb Gb gc lc rc fd id md nd rd wd Fd Id be ce ge ne Ne of wf If dg rg bi ci ii li pi Pi dl el nl ol pl v:α}{l Aa:List α}{n:Nat}(h:Xb l n v Aa):Xb (a::pa::b::c::d::a5::zb::Ab::mb::e::gd::jc::f::g::Ub::yd::i::Ac::j::k::m::o::p::q::r::s::t::u::w::x::y::z::A::B::C::D::E::F::G::H::K::L::M::N::O::P::Q::R::S::T::U::V::W::X::Y::Z::bb::Gb::gc::lc::rc::fd::id::md::nd::rd::wd::Fd::Id::be::ce::ge::ne::Ne::of::wf::If::dg::rg::bi::ci::ii::li::pi::Pi::dl::el::nl::ol::pl::l) (n+90) v (a::pa::b::c::d::a5::zb::Ab::mb::e::gd::jc::f::g::Ub::yd::i::Ac::j::k::m::o::p::q::r::s::t::u::w::x::y::z::A::B::C::D::E::F::G::H::K::L::M::N::O::P::Q::R::S::T::U::V::W::X::Y::Z::bb::Gb::gc::lc::rc::fd::id::md::nd::rd::wd::Fd::Id::be::ce::ge::ne::Ne::of::wf::If::dg::rg::bi::ci::ii::li::pi::Pi::dl::el::nl::ol::pl::Aa):=by unfold Xb at *;subst h;rfl
theorem Fa {α:Type}{a pa b c d a5 zb Ab mb e gd jc f g Ub yd i Ac j k m o p q r s t u w x y z A B C D E F G H K L M N O P Q R S T U V W X Y Z bb Gb gc lc rc fd id md nd rd wd Fd Id be ce ge ne Ne of wf If dg rg bi ci ii li pi Pi dl el nl ol pl ul wl am em hm lm sm Nm fn on v:α}{l:List α}{n:Nat}(h:Zb l n v):Zb (a::pa::b::c::d::a5::zb::Ab::mb::e::gd::jc::f::g::Ub::yd::i::Ac::j::k::m::o::p::q::r::s::t::u::w::x::y::z::A::B::C::D::E::F::G::H::K::L::M::N::O::P::Q::R::S::T::U::V::W::X::Y::Z::bb::Gb::gc::lc::rc::fd::id::md::nd::rd::wd::Fd::Id::be::ce::ge::ne::Ne::of::wf::If::dg::rg::bi::ci::ii::li::pi::Pi::dl::el::nl::ol::pl::ul::wl::am::em::hm::lm::sm::Nm::fn::on::l) (n+100) v:=h
theorem Lb {α:Type}{a pa b c d a5 zb Ab mb e gd jc f g Ub yd i Ac j k m o p q r s t u w x y z A B C D E F G H K L M N O P Q R S T U V W X Y Z bb Gb gc lc rc fd id md nd rd wd Fd Id be ce ge ne Ne of wf If dg rg bi ci ii li pi Pi dl el nl ol pl ul wl am em hm lm sm Nm fn on v:α}{l Aa:List α}{n:Nat}(h:Xb l n v Aa):Xb (a::pa::b::c::d::a5::zb::Ab::mb::e::gd::jc::f::g::Ub::yd::i::Ac::j::k::m::o::p::q::r::s::t::u::w::x::y::z::A::B::C::D::E::F::G::H::K::L::M::N::O::P::Q::R::S::T::U::V::W::X::Y::Z::bb::Gb::gc::lc::rc::fd::id::md::nd::rd::wd::Fd::Id::be::ce::ge::ne::Ne::of::wf::If::dg::rg::bi::ci::ii::li::pi::Pi::dl::el::nl::ol::pl::ul::wl::am::em::hm::lm::sm::Nm::fn::on::l) (n+100) v (a::pa::b::c::d::a5::zb::Ab::mb::e::gd::jc::f::g::Ub::yd::i::Ac::j::k::m::o::p::q::r::s::t::u::w::x::y::z::A::B::C::D::E::F::G::H::K::L::M::N::O::P::Q::R::S::T::U::V::W::X::Y::Z::bb::Gb::gc::lc::rc::fd::id::md::nd::rd::wd::Fd::Id::be::ce::ge::ne::Ne::of::wf::If::dg::rg::bi::ci::ii::li::pi::Pi::dl::el::nl::ol::pl::ul::wl::am::em::hm::lm::sm::Nm::fn::on::Aa):=by unfold Xb at *;subst h;rfl
open Go.RowKit
section
variable {P:Program}{Q:Exit->Act->World->Prop}{K:List Value->List Deferred->World->Prop}{fr ya:List Value}{ds:List Deferred}{w:World}
variable {dst:Option Tmp}{ty:TypeId}{pos:String}{after:Array Edge}{g:Option (Nat×Bool)}
variable {S Jc:Nat->Prop}{da:World}{rs rs':List Ha}{A:World->Prop}
variable {T:TypeId}
inductive Kk:TypeDesc->Value->Prop where
 | str (l:List UInt8):Kk .string (Bc.S l)
 | int (k:IntKind) (n:Int):Kk (.int k) (.int k n)
def Vk:Value->Value->Bool
 | .string a,.string b=>decide (a.data.toList=b.data.toList)
 | .int _ a,.int _ b=>decide (a=b)
 | _,_=>false
def Ik (es:List MapEntry) (k:Value):Option (Nat×Value):=(es.zipIdx.find? λe=>Vk k e.1.key).map λe=>(e.2,e.1.val)
theorem eN {d:TypeDesc}{k:Value}(b:Kk d k):∀ (es:List MapEntry) (i:Nat),(∀ e ∈ es,Kk d e.key)->Instr.findNow d k es i=some (((es.zipIdx i).find? λe=>Vk k e.1.key).map λe=>(e.2,e.1.val)):=by
 intro es
 induction es with
 | nil=>intro i _; simp [Instr.findNow]
 | cons e es c =>
  intro i h;have a:=h e (by simp);have f:=c (i+1) λx g=>h x (by simp [g]);simp only [Instr.findNow,List.zipIdx_cons,List.find?_cons];have j:Instr.sameNow d k e.key=some (Vk k e.key):=by
   generalize e.key=k' at a;cases b with
   | str l =>
    cases a with
    | str Aa =>
     simp only [Instr.sameNow,Bc.S,Vk];congr 1;rw [Bool.eq_iff_iff,ZD];simp
   | int kk n =>
    cases a with
    | int _ m =>
     simp only [Instr.sameNow,if_true,Vk];congr 1
  rw [j];cases o:Vk k e.key with
  | true=>simp
  | false=>exact f
theorem run_findKey {je:TypeId}{d:TypeDesc}{k:Value}{es:List MapEntry}(a:P.underlying je=some d) (b:Kk d k) (c:∀ e ∈ es,Kk d e.key):(Instr.findKey je k es).run P w=.ok (Ik es k) w:=by
 unfold Instr.findKey Ik;simp only [Sem.run_bind,run_underlying a,Result.andThen_ok,eN b es 0 c];rfl
theorem run_checkKey {je:TypeId}{d:TypeDesc}{k:Value}{b:Bool}(a:P.underlying je=some d) (c:Kk d k):(Instr.checkKey b 10000 je k).run P w=.ok () w:=by
 show (Instr.checkKey b (9999+1) je k).run P w=_;unfold Instr.checkKey;simp only [Sem.run_bind,run_underlying a,Result.andThen_ok];cases c<;>rfl
theorem uk (a:Sep S Jc da w rs A) (h:∀ b w',w.heap.size<=b->Sep S Jc da w' (.map b [] 0::rs) A->Hg fr dst (.map (some b)) λya=>K ya ds w'):pd P (Oper.mk dst (.makeMap T none) ty pos after g) fr ds w K Q:=by
 obtain ⟨ya,Ca⟩:=Fi fr dst (.map (some w.heap.size));refine Fh (v:=.map (some w.heap.size)) (w':=w.alloc (.map #[] 0)) ?_ Ca<|h _ _ (Nat.le_refl _) (a.alloc rfl<|heap_alloc_new w _) ya Ca;simp [execOp,Instr.makeMap]
def hl (es:List MapEntry) (k z:Value):Value:=(Ik es k).elim z (·.2)
def jt (es:List MapEntry) (k:Value):Bool:=(Ik es k).isSome
def putAt (es:List MapEntry) (c:Nat) (k v:Value):List MapEntry:=match Ik es k with
 | some (i,_)=>es.modify i λe=>{ e with key:=k,val:=v }
 | none=>es++[{ key:=k,val:=v,born:=c }]
def Nj (es:List MapEntry) (c:Nat) (k:Value):Nat:=match Ik es k with
 | some _=>c
 | none=>c+1
theorem gD {es:List MapEntry}{k v:Value}{i:Nat}(h:Ik es k=some (i,v)):∃ e,es[i]?=some e/\Vk k e.key=true/\e.val=v:=by
 unfold Ik at h;cases a:es.zipIdx.find? λe=>Vk k e.1.key with
 | none=>rw [a] at h; cases h
 | some x =>
  rw [a] at h;simp only [Option.map_some,Option.some.injEq,Prod.mk.injEq] at h;obtain ⟨rfl,rfl⟩:=h;have b:=List.find?_some (p:=λe:MapEntry×Nat=>Vk k e.1.key) a;have c:=List.mem_of_find?_eq_some a;exact ⟨x.1,by have:=List.mem_zipIdx_iff_getElem?.1 c;simpa using this,b,rfl⟩
theorem rI {d:TypeDesc}{k k':Value}(b:Kk d k) (a:Kk d k') (h:Vk k k'=true):Instr.sameBits 10000 k' k=true:=by
 cases b with
 | str l =>
  cases a with
  | str Aa =>
   simp [Vk,Bc.S] at h;subst h;simp only [Instr.sameBits,Bc.S];exact (ZD _ _).2 rfl
 | int kk n =>
  cases a with
  | int _ c =>
   simp [Vk] at h;subst h;simp [Instr.sameBits]
theorem TJ {x y z:Operand}{je ba:TypeId}{d:TypeDesc}{kv v:Value}{b c k:Nat}{es:List MapEntry}(m:P.underlying T=some (.map je ba)) (n:P.underlying je=some d) (o:ab fr x (.map (some b))) (p:ab fr y kv) (a:Kk d kv) (q:ab fr z v)
  (r:Sep S Jc da w rs A) (la:Zb rs k (.map b es c)) (s:∀ e ∈ es,Kk d e.key)
  (Ca:zf fr dst undef ya) (h:∀ w' rs',Xb rs k (.map b (putAt es c kv v) (Nj es c kv)) rs'->Sep S Jc da w' rs' A->K ya ds w'):pd P (Oper.mk dst (.mapUpdate T x y z) ty pos after g) fr ds w K Q:=by
 have f:w.heap[b]?=some (.map ⟨es⟩ c):=r.get la;have D:b<w.heap.size:=(Array.getElem?_eq_some_iff.1 f).1
 let w':World:={ w with heap:=w.heap.setIfInBounds b (.map ⟨putAt es c kv v⟩ (Nj es c kv)) }
 have E:Ui (λk=>k≠b) w w':=⟨rfl,rfl,rfl,by simp [w'],λj _ F=>by simp [w',Array.getElem?_setIfInBounds,Ne.symm F]⟩;have G:=r.put (b:=b) (r':=.map b (putAt es c kv v) (Nj es c kv)) (w':=w') la rfl rfl rfl (by show w'.heap[b]?=_;simp [w',D]) E;have t:=run_checkKey (P:=P) (w:=w) (b:=false) n a;have B:=run_findKey (P:=P) (w:=w) n a s;refine sB (w':=w') ?_ Ca<|h w' _ rfl G;cases l:Ik es kv with
 | none=>simp [execOp,o ds,p ds,q ds,Instr.mapUpdate,run_underlying m,getObj,setObj,Sem.run,f,Result.andThen,t,B,l,w',putAt,Nj]
 | some e =>
  obtain ⟨i,u⟩:=e;obtain ⟨e,C,H,-⟩:=gD l;have L:=rI a (s e (List.mem_of_getElem? C)) H;simp [execOp,o ds,p ds,q ds,Instr.mapUpdate,run_underlying m,getObj,setObj,Sem.run,f,Result.andThen,t,B,l,C,Instr.keyThatStays,L,w',putAt,Nj]
theorem iP {x:Operand}{je ba:TypeId}{m c k:Nat}{es:List MapEntry}(d:P.underlying T=some (.map je ba)) (e:ab fr x (.map (some m))) (a:Sep S Jc da w rs A) (la:Zb rs k (.map m es c))
  (h:∀ b w',w.heap.size<=b->Sep S Jc da w' (.nn b m c [] c::rs) A->Hg fr dst (.pointer (some ⟨b,0,none⟩)) λya=>K ya ds w'):pd P (Oper.mk dst (.range T x) ty pos after g) fr ds w K Q:=by
 have f:w.heap[m]?=some (.map ⟨es⟩ c):=a.get la;obtain ⟨ya,Ca⟩:=Fi fr dst (.pointer (some ⟨w.heap.size,0,none⟩));refine Fh (v:=.pointer (some ⟨w.heap.size,0,none⟩)) (w':=w.alloc (.mapIter (some m) c #[] c)) ?_ Ca<|h _ _ (Nat.le_refl _) (a.alloc rfl<|heap_alloc_new w _) ya Ca;simp [execOp,e ds,Instr.range,run_underlying d,getObj,Sem.run,f,Result.andThen]
end
end Go.Bc
namespace Go.Re
open Go.Bc Go.RowKit
section
variable {P:Program}{Q:Exit->Act->World->Prop}{K:List Value->List Deferred->World->Prop}{fr ya:List Value}{ds:List Deferred}{w:World}
variable {dst:Option Tmp}{ty:TypeId}{pos:String}{after:Array Edge}{g:Option (Nat×Bool)}
variable {da:World}{rs rs':List Ha}{μ J:M}
variable {T:TypeId}{d:TypeDesc}{mc:Bool}{zc:List Value}{n m:Nat}
theorem gJ {x y:Operand}{je ba:TypeId}{d:TypeDesc}{kv z:Value}{b c:Nat}{es:List MapEntry}(a:P.underlying T=some (.map je ba)) (f:P.underlying je=some d) (i:ab fr x (.map (some b))) (j:ab fr y kv) (k:Kk d kv)
  (p:∀ w,(zeroValue ba).run P w=.ok z w) (l:w.heap[b]?=some (.map ⟨es⟩ c)) (q:∀ e ∈ es,Kk d e.key)
  (r:zf fr dst (hl es kv z) ya) (h:K ya ds w):pd P (Oper.mk dst (.lookup T x y false) ty pos after g) fr ds w K Q:=by
 refine Fh (w':=w) ?_ r h;have m:=run_checkKey (w:=w) (b:=es.isEmpty) f k;have n:=run_findKey (w:=w) f k q;cases o:Ik es kv with
 | none=>simp [execOp,i ds,j ds,Instr.lookup,run_underlying a,getObj,Sem.run,l,Result.andThen,m,n,o,p w,hl]
 | some e=>simp [execOp,i ds,j ds,Instr.lookup,run_underlying a,getObj,Sem.run,l,Result.andThen,m,n,o,hl]
theorem aE {x y:Operand}{je ba:TypeId}{d:TypeDesc}{kv z:Value}{b c:Nat}{es:List MapEntry}(a:P.underlying T=some (.map je ba)) (f:P.underlying je=some d) (i:ab fr x (.map (some b))) (j:ab fr y kv) (k:Kk d kv)
  (p:∀ w,(zeroValue ba).run P w=.ok z w) (l:w.heap[b]?=some (.map ⟨es⟩ c)) (q:∀ e ∈ es,Kk d e.key)
  (r:zf fr dst (.tuple #[hl es kv z,.bool (jt es kv)]) ya) (h:K ya ds w):pd P (Oper.mk dst (.lookup T x y true) ty pos after g) fr ds w K Q:=by
 refine Fh (w':=w) ?_ r h;have m:=run_checkKey (w:=w) (b:=es.isEmpty) f k;have n:=run_findKey (w:=w) f k q;cases o:Ik es kv with
 | none=>simp [execOp,i ds,j ds,Instr.lookup,run_underlying a,getObj,Sem.run,l,Result.andThen,m,n,o,p w,hl,jt]
 | some e=>simp [execOp,i ds,j ds,Instr.lookup,run_underlying a,getObj,Sem.run,l,Result.andThen,m,n,o,hl,jt]
class hb (κ:Type) [DecidableEq κ] where
 key:κ->Value
 hd:TypeDesc
 je:∀ k,Kk hd (key k)
 eq:∀ a b,Vk (key a) (key b)=decide (a=b)
instance:hb (List UInt8) where
 key:=S
 hd:=.string
 je:=.str
 eq a b:=by simp [Vk,S]
instance:hb Int where
 key n:=.int .i64 n
 hd:=.int .i64
 je:=.int .i64
 eq a b:=by simp [Vk]
class Ih (β:Type) where
 ij:M->Value->β->Prop
 up:∀ {μ J:M}{v:Value}{x:β},ha μ J->ij μ v x->ij J v x
instance:Ih Int where
 ij _ v x:=v=.int .i64 x
 up _ h:=h
def au {α:Type}[Ja α] (μ:M) (v:Value) (x:α):Prop:=∃ cs,v=.agg ⟨cs⟩/\Ja.cs μ cs x
theorem au.up {α:Type}[Ja α]{v:Value}{x:α}(l:ha μ J) (h:au μ v x):au J v x:=by
 obtain ⟨cs,a,b⟩:=h;exact ⟨cs,a,Ja.up l b⟩
def Fe {α:Type}[Ja α] (μ:M) (v:Value) (x:α):Prop:=∃ b o cs,v=.pointer (some ⟨b,o,none⟩)/\xa μ b o cs/\Ja.cs μ cs x
theorem Fe.up {α:Type}[Ja α]{v:Value}{x:α}(l:ha μ J) (h:Fe μ v x):Fe J v x:=by
 obtain ⟨b,o,cs,a,c,d⟩:=h;exact ⟨b,o,cs,a,c.up l,Ja.up l d⟩
def Bf {α:Type}[Ja α] (μ:M) (v:Value):Option α->Prop
 | none=>v=.pointer none
 | some x=>Fe μ v x
theorem Bf.up {α:Type}[Ja α]{v:Value}{x:Option α}(h:Bf μ v x) (l:ha μ J):Bf J v x:=by
 cases x with
 | none=>exact h
 | some x=>exact Fe.up l h
theorem Bf.ae {α:Type}[Ja α]{v:Value}{x:Option α}(h:Bf μ v x):ae v=true:=by
 cases x with
 | none=>rw [show v=.pointer none from h]; rfl
 | some x=>obtain ⟨b,o,cs,rfl,-⟩:=h; rfl
theorem Bf.of {α:Type}[Ja α]{b o:Nat}{cs:List Value}{x:α}(h:xa μ b o cs) (k:Ja.cs μ cs x):Bf μ (.pointer (some ⟨b,o,none⟩)) (some x):=⟨b,o,cs,rfl,h,k⟩
theorem Bf.get {α:Type}[Ja α]{v:Value}{o:Option α}{x:α}(h:Bf μ v o) (g:o=some x):∃ b o cs,v=.pointer (some ⟨b,o,none⟩)/\xa μ b o cs/\Ja.cs μ cs x:=by
 subst g;exact h
instance {α:Type}[Ja α]:Ja (Option α) where
 sz:=1
 pos:=by decide
 cs μ l x:=∃ v,l=[v]/\Bf μ v x
 Qh h:=by obtain ⟨v,rfl,-⟩:=h;rfl
 up l h:=by obtain ⟨v,a,b⟩:=h;exact ⟨v,a,b.up l⟩
 fg h:=by obtain ⟨v,rfl,h⟩:=h;simp [h.ae]
def Sa {κ β:Type}[DecidableEq κ]:List (κ×β)->κ->Option β
 | [],_=>none
 | (a,b)::m,k=>if a=k then some b else Sa m k
def dd {κ β:Type}[DecidableEq κ]:List (κ×β)->κ->β->List (κ×β)
 | [],k,x=>[(k,x)]
 | (a,b)::m,k,x=>if a=k then (k,x)::m else (a,b)::dd m k x
def Cg {κ β:Type}[DecidableEq κ] [hb κ] [Ih β] (μ:M):List MapEntry->List (κ×β)->Prop
 | [],m=>m=[]
 | e::es,m=>∃ k x t,m=(k,x)::t/\e.key=hb.key k/\Ih.ij μ e.val x/\Cg μ es t
structure ke {κ β:Type}[DecidableEq κ] [hb κ] [Ih β] (μ:M) (es:List MapEntry) (c:Nat) (m:List (κ×β)):Prop where
 kv:Cg μ es m
 lt:∀ e ∈ es,e.born<c
 inc:es.Pairwise λa b=>a.born<b.born
variable {κ β:Type}[DecidableEq κ] [hb κ] [Ih β]
theorem Cg.up (l:ha μ J):∀ {es:List MapEntry}{m:List (κ×β)},Cg μ es m->Cg J es m
 | [],m,h=>by rw [Cg] at h ⊢; exact h
 | e::es,m,h=>by
  rw [Cg] at h ⊢;obtain ⟨k,x,t,a,b,c,d⟩:=h;exact ⟨k,x,t,a,b,Ih.up l c,Cg.up l d⟩
theorem ke.up {es:List MapEntry}{c:Nat}{m:List (κ×β)}(h:ke μ es c m) (l:ha μ J):ke J es c m:=⟨h.kv.up l,h.lt,h.inc⟩
theorem Cg.keys:∀ {es:List MapEntry}{m:List (κ×β)},Cg μ es m->∀ e ∈ es,Kk (hb.hd (κ:=κ)) e.key
 | [],m,_,e,he=>by cases he
 | e::es,m,h,a,he=>by
  rw [Cg] at h;obtain ⟨k,x,t,d,b,f,c⟩:=h;rcases List.mem_cons.1 he with rfl | he
  ·rw [b];exact hb.je k
  ·exact Cg.keys c a he
theorem Cg.len:∀ {es:List MapEntry}{m:List (κ×β)},Cg μ es m->es.length=m.length
 | [],m,h=>by rw [Cg] at h; simp [h]
 | e::es,m,h=>by
  rw [Cg] at h;obtain ⟨k,x,t,rfl,b,c,a⟩:=h;simp [Cg.len a]
def gm (kv:Value):List MapEntry->Option (Nat×Value)
 | []=>none
 | e::es=>if Vk kv e.key then some (0,e.val) else (gm kv es).map λp=>(p.1+1,p.2)
theorem hJ (kv:Value):∀ (es:List MapEntry) (i:Nat),(((es.zipIdx i).find? λe=>Vk kv e.1.key).map λe=>(e.2,e.1.val))=(gm kv es).map λp=>(p.1+i,p.2)
 | [],i=>rfl
 | e::es,i=>by
  rw [List.zipIdx_cons,List.find?_cons,gm];cases h:Vk kv e.key with
  | true=>simp
  | false =>
   simp only [Bool.false_eq_true,if_false];rw [hJ kv es (i+1),Option.map_map];congr 1;funext p;simp;omega
theorem Ix (es:List MapEntry) (kv:Value):Ik es kv=gm kv es:=by
 unfold Ik;rw [hJ];cases gm kv es<;>simp
theorem Cg.look:∀ {es:List MapEntry}{m:List (κ×β)},Cg μ es m->∀ k:κ,(match gm (hb.key k) es with | none=>Sa m k=none | some p=>∃ x,Sa m k=some x/\Ih.ij μ p.2 x)
 | [],m,h,k=>by rw [Cg] at h; subst h; rfl
 | e::es,m,h,k=>by
  rw [Cg] at h;obtain ⟨k',x,t,rfl,d,f,g⟩:=h;rw [gm,Sa,d,hb.eq];have a:=Cg.look g k;by_cases b:k=k'
  ·subst b;simp;exact f
  ·rw [if_neg (by simpa using b),if_neg (λe=>b e.symm)];cases c:gm (hb.key k) es with
   | none=>rw [c] at a; exact a
   | some p=>rw [c] at a; exact a
theorem Cg.get {es:List MapEntry}{m:List (κ×β)}(h:Cg μ es m) (k:κ){z:Value}{zx:β}(b:Ih.ij μ z zx):Ih.ij μ (hl es (hb.key k) z) ((Sa m k).getD zx):=by
 have:=h.look k;unfold hl;rw [Ix];cases a:gm (hb.key k) es with
 | none=>rw [a] at this; simp only at this; rw [this]; exact b
 | some p=>rw [a] at this; obtain ⟨x,c,d⟩:=this; rw [c]; exact d
theorem Cg.has {es:List MapEntry}{m:List (κ×β)}(h:Cg μ es m) (k:κ):jt es (hb.key k)=(Sa m k).isSome:=by
 have:=h.look k;unfold jt;rw [Ix];cases a:gm (hb.key k) es with
 | none=>rw [a] at this; simp only at this; rw [this]; rfl
 | some p=>rw [a] at this; obtain ⟨x,b,c⟩:=this; rw [b]; rfl
theorem Cg.put:∀ {es:List MapEntry}{m:List (κ×β)},Cg μ es m->∀ (k:κ){v:Value}{x:β},Ih.ij μ v x->∀ c,Cg μ (match gm (hb.key k) es with | some (i,_)=>es.modify i λe=>{ e with key:=hb.key k,val:=v } | none=>es++[{ key:=hb.key k,val:=v,born:=c }]) (dd m k x)
 | [],m,h,k,v,x,Oa,c=>by
  rw [Cg] at h;subst h;exact ⟨k,x,[],rfl,rfl,Oa,rfl⟩
 | e::es,m,h,k,v,x,Oa,c=>by
  rw [Cg] at h;obtain ⟨k',f,t,rfl,b,g,j⟩:=h;rw [gm,dd,b,hb.eq];have a:=Cg.put j k Oa c;by_cases d:k=k'
  ·subst d;simp;exact ⟨k,x,t,rfl,rfl,Oa,j⟩
  ·rw [if_neg (by simpa using d),if_neg (λe=>d e.symm)];cases l:gm (hb.key k) es with
   | none=>rw [l] at a; exact ⟨k',f,_,rfl,b,g,a⟩
   | some p=>rw [l] at a; exact ⟨k',f,_,rfl,b,g,a⟩
theorem ke.put {es:List MapEntry}{c:Nat}{m:List (κ×β)}(h:ke μ es c m) (k:κ){v:Value}{x:β}(Oa:Ih.ij μ v x):ke μ (putAt es c (hb.key k) v) (Nj es c (hb.key k)) (dd m k x):=by
 have f:=h.kv.put k Oa c;have sa:∀ i,(es.modify i λe=>{ e with key:=hb.key k,val:=v }).map (·.born)=es.map (·.born):=by
  intro i;refine List.ext_getElem (by simp) λj y z=>?_;simp only [List.getElem_map,List.getElem_modify];split<;>rfl
 have o:∀ l:List MapEntry,l.map (·.born)=es.map (·.born)->∀ e ∈ l,e.born<c:=λl la e d=>by
  have q:e.born ∈ es.map (·.born):=la ▸ List.mem_map_of_mem d;obtain ⟨r,s,g⟩:=List.mem_map.1 q;rw [<- g];exact h.lt r s
 have t:∀ l:List MapEntry,l.map (·.born)=es.map (·.born)->l.Pairwise λa b=>a.born<b.born:=λl la=>by
  have:(es.map (·.born)).Pairwise (·<·):=List.pairwise_map.2 h.inc;rw [<- la] at this;exact List.pairwise_map.1 this
 unfold putAt Nj;rw [Ix];cases n:gm (hb.key k) es with
 | some p =>
  obtain ⟨i,u⟩:=p;rw [n] at f;exact ⟨f,o _<|sa i,t _<|sa i⟩
 | none =>
  rw [n] at f;refine ⟨f,λe d=>?_,?_⟩
  ·rcases List.mem_append.1 d with d | d
   ·exact Nat.lt_succ_of_lt<|h.lt e d
   ·simp at d;subst d;exact Nat.lt_succ_self _
  ·rw [List.pairwise_append];refine ⟨h.inc,by simp,λa w b g=>?_⟩;simp at g;subst g;exact h.lt a w
theorem ke.nil {c:Nat}:ke (κ:=κ) (β:=β) μ [] c []:=⟨rfl,by simp,by simp⟩
def Tf (μ:M) (b:Nat) (m:List (κ×β)):Prop:=∃ es c,(∀ w,μ w->w.heap[b]?=some (.map ⟨es⟩ c))/\ke μ es c m
theorem Tf.up {b:Nat}{m:List (κ×β)}(h:Tf μ b m) (l:ha μ J):Tf J b m:=by
 obtain ⟨es,c,a,d⟩:=h;exact ⟨es,c,λw e=>a w<|l w e,d.up l⟩
theorem _root_.Go.Bc.Sep.xm {b c:Nat}{es:List MapEntry}{m:List (κ×β)}(h:fa μ da w (.map b es c::rs)) (d:ke μ es c m):∃ J,ha μ J/\Tf J b m/\fa J da w rs :=
 ⟨_,λ_ a=>a.1,⟨es,c,λ_ a=>a.2,d.up λ_ a=>a.1⟩,Sep.UB (B:=λw=>w.heap[b]?=some (.map ⟨es⟩ c)) h λ_ a=>a⟩
theorem iJ {x y:Operand}{je ba:TypeId}{z:Value}{b c:Nat}{es:List MapEntry}{m:List (κ×β)}{k:κ}{zx:β}(d:P.underlying T=some (.map je ba)) (e:P.underlying je=some (hb.hd (κ:=κ))) (f:ab fr x (.map (some b))) (i:ab fr y (hb.key k))
  (j:∀ w,(zeroValue ba).run P w=.ok z w) (l:Ih.ij μ z zx) (n:w.heap[b]?=some (.map ⟨es⟩ c)) (a:ke μ es c m)
  (h:∀ v,Ih.ij μ v ((Sa m k).getD zx)->Hg fr dst (.tuple #[v,.bool (Sa m k).isSome]) λya=>K ya ds w):pd P (Oper.mk dst (.lookup T x y true) ty pos after g) fr ds w K Q:=by
 obtain ⟨ya,Ca⟩:=Fi fr dst (.tuple #[hl es (hb.key k) z,.bool (jt es (hb.key k))]);refine aE d e f i (hb.je k) j n a.kv.keys Ca ?_;rw [a.kv.has k] at Ca;exact h _ (a.kv.get k l) ya Ca
theorem Gn {x y:Operand}{je ba:TypeId}{z:Value}{b c:Nat}{es:List MapEntry}{m:List (κ×β)}{k:κ}{zx:β}(d:P.underlying T=some (.map je ba)) (e:P.underlying je=some (hb.hd (κ:=κ))) (f:ab fr x (.map (some b))) (i:ab fr y (hb.key k))
  (j:∀ w,(zeroValue ba).run P w=.ok z w) (l:Ih.ij μ z zx) (n:w.heap[b]?=some (.map ⟨es⟩ c)) (a:ke μ es c m)
  (h:∀ v,Ih.ij μ v ((Sa m k).getD zx)->Hg fr dst v λya=>K ya ds w):pd P (Oper.mk dst (.lookup T x y false) ty pos after g) fr ds w K Q:=by
 obtain ⟨ya,Ca⟩:=Fi fr dst (hl es (hb.key k) z);refine gJ d e f i (hb.je k) j n a.kv.keys Ca ?_;exact h _ (a.kv.get k l) ya Ca
theorem Cg.eL {α:Type}[Ja α] [Ih α] (hrv:∀ (v:Value) (x:α),Ih.ij μ v x->Fe μ v x){es:List MapEntry}{m:List (κ×α)}(h:Cg μ es m) (k:κ):Bf μ (hl es (hb.key k) (.pointer none)) (Sa m k):=by
 have:=h.look k;unfold hl;rw [Ix];cases a:gm (hb.key k) es with
 | none=>rw [a] at this; simp only at this; rw [this]; rfl
 | some p=>rw [a] at this; obtain ⟨x,b,c⟩:=this; rw [b]; exact hrv _ _ c
theorem OI {α:Type}[Ja α] [Ih α] (hrv:∀ (v:Value) (x:α),Ih.ij μ v x->Fe μ v x){x y:Operand}{je ba:TypeId}{b c:Nat}{es:List MapEntry}{m:List (κ×α)}{k:κ}(d:P.underlying T=some (.map je ba)) (e:P.underlying je=some (hb.hd (κ:=κ))) (f:ab fr x (.map (some b))) (i:ab fr y (hb.key k))
  (j:∀ w,(zeroValue ba).run P w=.ok (.pointer none) w) (l:w.heap[b]?=some (.map ⟨es⟩ c)) (a:ke μ es c m)
  (h:∀ v,Bf μ v (Sa m k)->Hg fr dst (.tuple #[v,.bool (Sa m k).isSome]) λya=>K ya ds w):pd P (Oper.mk dst (.lookup T x y true) ty pos after g) fr ds w K Q:=by
 obtain ⟨ya,Ca⟩:=Fi fr dst (.tuple #[hl es (hb.key k) (.pointer none),.bool (jt es (hb.key k))]);refine aE d e f i (hb.je k) j l a.kv.keys Ca ?_;rw [a.kv.has k] at Ca;exact h _ (a.kv.eL hrv k) ya Ca
theorem Nx {α:Type}[Ja α] [Ih α] (hrv:∀ (v:Value) (x:α),Ih.ij μ v x->Fe μ v x){x y:Operand}{je ba:TypeId}{b c:Nat}{es:List MapEntry}{m:List (κ×α)}{k:κ}(d:P.underlying T=some (.map je ba)) (e:P.underlying je=some (hb.hd (κ:=κ))) (f:ab fr x (.map (some b))) (i:ab fr y (hb.key k))
  (j:∀ w,(zeroValue ba).run P w=.ok (.pointer none) w) (l:w.heap[b]?=some (.map ⟨es⟩ c)) (a:ke μ es c m)
  (h:∀ v,Bf μ v (Sa m k)->Hg fr dst v λya=>K ya ds w):pd P (Oper.mk dst (.lookup T x y false) ty pos after g) fr ds w K Q:=by
 obtain ⟨ya,Ca⟩:=Fi fr dst (hl es (hb.key k) (.pointer none));refine gJ d e f i (hb.je k) j l a.kv.keys Ca ?_;exact h _ (a.kv.eL hrv k) ya Ca
theorem kt {ba:TypeId}{z:Value}(h:(P.info? ba).map (λi=>i.zero)=some (some z)):∀ w,(zeroValue ba).run P w=.ok z w:=λw=>by
 cases a:P.info? ba with
 | none=>rw [a] at h; cases h
 | some i =>
  rw [a] at h;simp only [Option.map_some,Option.some.injEq] at h;simp [zeroValue,typeInfo,a,h]
theorem er {x y z:Operand}{je ba:TypeId}{v:Value}{b c k:Nat}{es:List MapEntry}{kk:κ}{m:List (κ×β)}{xx:β}(e:P.underlying T=some (.map je ba)) (f:P.underlying je=some (hb.hd (κ:=κ))) (i:ab fr x (.map (some b))) (j:ab fr y (hb.key kk)) (l:ab fr z v) (Oa:Ih.ij μ v xx)
  (n:fa μ da w rs) (la:Zb rs k (.map b es c)) (a:ke μ es c m)
  (Ca:zf fr dst undef ya) (h:∀ d c' w' rs',ke μ d c' (dd m kk xx)->Xb rs k (.map b d c') rs'->fa μ da w' rs'->K ya ds w'):pd P (Oper.mk dst (.mapUpdate T x y z) ty pos after g) fr ds w K Q :=
 TJ e f i j (hb.je kk) l n la a.kv.keys Ca λw' rs'=>h _ _ w' rs' (a.put kk Oa)
theorem vm {x y z:Operand}{je ba:TypeId}{v:Value}{b c k:Nat}{es:List MapEntry}{kk:κ}{m:List (κ×β)}{xx:β}(d:P.underlying T=some (.map je ba)) (e:P.underlying je=some (hb.hd (κ:=κ))) (f:ab fr x (.map (some b))) (i:ab fr y (hb.key kk)) (j:ab fr z v) (Oa:Ih.ij μ v xx)
  (l:fa μ da w rs) (la:Zb rs k (.map b es c)) (n:ke μ es c m)
  (Ca:zf fr dst undef ya) (h:∀ a c' w' rs',ke μ a c' (dd m kk xx)->Xb rs k (.map b a c') rs'->fa μ da w' rs'->K ya ds w'):pd P (Oper.mk dst (.insert T x y z) ty pos after g) fr ds w K Q :=
 ⟨λo p=>(er (dst:=dst) (ty:=ty) (pos:=pos) (after:=after) (g:=g) d e f i j Oa l la n Ca h).out o p⟩
theorem UJ {x:Operand}{je ba:TypeId}{b c:Nat}{es:List MapEntry}{m:List (κ×β)}(a:P.underlying T=some (.map je ba)) (d:ab fr x (.map (some b))) (e:w.heap[b]?=some (.map ⟨es⟩ c)) (f:ke μ es c m)
  (i:zf fr dst (.int .i64 m.length) ya) (h:K ya ds w):pd P (Oper.mk dst (.call { callee:=.builtin .len,args:=#[x],argTypes:=#[T] }) ty pos after g) fr ds w K Q:=by
 refine Fh (w':=w) ?_ i h;have:=f.kv.len;simp [execOp,resolve,invoke,builtin,Builtin.len_,goInt,d ds,run_underlying a,getObj,Sem.run,e,Result.andThen,this]
end
end Go.Re
namespace Go.Bc
abbrev jh (m:List hb):List hb:=.k::m
abbrev Mc (s:Nat) (m:List hb):List hb:=.o s::m
theorem yp {m:List hb}{a:Value}{l Aa:List Value}(h:We m l Aa):We (jh m) (a::l) (a::Aa):=(.k h)
theorem tq {m:List hb}{s:Nat}{a b:Value}{l Aa:List Value}(h:We m l Aa):We (Mc s m) (a::l) (b::Aa):=(.o h)
theorem FG {t:Nat->Value}{m:List hb}{a:Value}{l Aa:List Value}(h:Df t m l Aa):Df t (jh m) (a::l) (a::Aa):=(mk h)
theorem VB {t:Nat->Value}{m:List hb}{s:Nat}{a:Value}{l Aa:List Value}(h:Df t m l Aa):Df t (Mc s m) (a::l) (t s::Aa):=(nb h)
abbrev ef (m:List hb):List hb:=.k::.k::m
abbrev Og (s:Nat) (m:List hb):List hb:=.o s::.o (s+1)::m
theorem pn {m:List hb}{a pa:Value}{l Aa:List Value}(h:We m l Aa):We (ef m) (a::pa::l) (a::pa::Aa):=(.k (.k h))
theorem WB {m:List hb}{s:Nat}{a pa b ka:Value}{l Aa:List Value}(h:We m l Aa):We (Og s m) (a::pa::l) (b::ka::Aa):=(.o (.o h))
theorem wL {t:Nat->Value}{m:List hb}{a pa:Value}{l Aa:List Value}(h:Df t m l Aa):Df t (ef m) (a::pa::l) (a::pa::Aa):=(mk (mk h))
theorem rW {t:Nat->Value}{m:List hb}{s:Nat}{a pa:Value}{l Aa:List Value}(h:Df t m l Aa):Df t (Og s m) (a::pa::l) (t s::t (s+1)::Aa):=(nb (nb h))
abbrev sh (m:List hb):List hb:=.k::.k::.k::m
abbrev Aj (s:Nat) (m:List hb):List hb:=.o s::.o (s+1)::.o (s+2)::m
theorem Bw {m:List hb}{a pa b:Value}{l Aa:List Value}(h:We m l Aa):We (sh m) (a::pa::b::l) (a::pa::b::Aa):=(.k (.k (.k h)))
theorem cv {m:List hb}{s:Nat}{a pa b c ka jd:Value}{l Aa:List Value}(h:We m l Aa):We (Aj s m) (a::pa::b::l) (c::ka::jd::Aa):=(.o (.o (.o h)))
theorem xL {t:Nat->Value}{m:List hb}{a pa b:Value}{l Aa:List Value}(h:Df t m l Aa):Df t (sh m) (a::pa::b::l) (a::pa::b::Aa):=(mk (mk (mk h)))
theorem XB {t:Nat->Value}{m:List hb}{s:Nat}{a pa b:Value}{l Aa:List Value}(h:Df t m l Aa):Df t (Aj s m) (a::pa::b::l) (t s::t (s+1)::t (s+2)::Aa):=(nb (nb (nb h)))
abbrev qg (m:List hb):List hb:=.k::.k::.k::.k::m
abbrev hi (s:Nat) (m:List hb):List hb:=.o s::.o (s+1)::.o (s+2)::.o (s+3)::m
theorem sW {m:List hb}{a pa b c:Value}{l Aa:List Value}(h:We m l Aa):We (qg m) (a::pa::b::c::l) (a::pa::b::c::Aa):=(.k (.k (.k (.k h))))
theorem uq {m:List hb}{s:Nat}{a pa b c d ka jd Ua:Value}{l Aa:List Value}(h:We m l Aa):We (hi s m) (a::pa::b::c::l) (d::ka::jd::Ua::Aa):=(.o (.o (.o (.o h))))
theorem tW {t:Nat->Value}{m:List hb}{a pa b c:Value}{l Aa:List Value}(h:Df t m l Aa):Df t (qg m) (a::pa::b::c::l) (a::pa::b::c::Aa):=(mk (mk (mk (mk h))))
theorem yL {t:Nat->Value}{m:List hb}{s:Nat}{a pa b c:Value}{l Aa:List Value}(h:Df t m l Aa):Df t (hi s m) (a::pa::b::c::l) (t s::t (s+1)::t (s+2)::t (s+3)::Aa):=(nb (nb (nb (nb h))))
abbrev sg (m:List hb):List hb:=.k::.k::.k::.k::.k::m
abbrev Dr (s:Nat) (m:List hb):List hb:=.o s::.o (s+1)::.o (s+2)::.o (s+3)::.o (s+4)::m
theorem Fo {m:List hb}{a pa b c d:Value}{l Aa:List Value}(h:We m l Aa):We (sg m) (a::pa::b::c::d::l) (a::pa::b::c::d::Aa):=(.k (.k (.k (.k (.k h)))))
theorem GG {t:Nat->Value}{m:List hb}{a pa b c d:Value}{l Aa:List Value}(h:Df t m l Aa):Df t (sg m) (a::pa::b::c::d::l) (a::pa::b::c::d::Aa):=(mk (mk (mk (mk (mk h)))))
theorem uW {t:Nat->Value}{m:List hb}{s:Nat}{a pa b c d:Value}{l Aa:List Value}(h:Df t m l Aa):Df t (Dr s m) (a::pa::b::c::d::l) (t s::t (s+1)::t (s+2)::t (s+3)::t (s+4)::Aa):=(nb (nb (nb (nb (nb h)))))
abbrev rj (m:List hb):List hb:=.k::.k::.k::.k::.k::.k::m
abbrev im (s:Nat) (m:List hb):List hb:=.o s::.o (s+1)::.o (s+2)::.o (s+3)::.o (s+4)::.o (s+5)::m
theorem Cw {m:List hb}{a pa b c d a5:Value}{l Aa:List Value}(h:We m l Aa):We (rj m) (a::pa::b::c::d::a5::l) (a::pa::b::c::d::a5::Aa):=(.k (.k (.k (.k (.k (.k h))))))
theorem vW {t:Nat->Value}{m:List hb}{a pa b c d a5:Value}{l Aa:List Value}(h:Df t m l Aa):Df t (rj m) (a::pa::b::c::d::a5::l) (a::pa::b::c::d::a5::Aa):=(mk (mk (mk (mk (mk (mk h))))))
abbrev qi (m:List hb):List hb:=.k::.k::.k::.k::.k::.k::.k::m
abbrev jm (s:Nat) (m:List hb):List hb:=.o s::.o (s+1)::.o (s+2)::.o (s+3)::.o (s+4)::.o (s+5)::.o (s+6)::m
theorem HG {m:List hb}{a pa b c d a5 zb:Value}{l Aa:List Value}(h:We m l Aa):We (qi m) (a::pa::b::c::d::a5::zb::l) (a::pa::b::c::d::a5::zb::Aa):=(.k (.k (.k (.k (.k (.k (.k h)))))))
theorem Oy {t:Nat->Value}{m:List hb}{a pa b c d a5 zb:Value}{l Aa:List Value}(h:Df t m l Aa):Df t (qi m) (a::pa::b::c::d::a5::zb::l) (a::pa::b::c::d::a5::zb::Aa):=(mk (mk (mk (mk (mk (mk (mk h)))))))
theorem wW {t:Nat->Value}{m:List hb}{s:Nat}{a pa b c d a5 zb:Value}{l Aa:List Value}(h:Df t m l Aa):Df t (jm s m) (a::pa::b::c::d::a5::zb::l) (t s::t (s+1)::t (s+2)::t (s+3)::t (s+4)::t (s+5)::t (s+6)::Aa):=(nb (nb (nb (nb (nb (nb (nb h)))))))
abbrev ql (m:List hb):List hb:=.k::.k::.k::.k::.k::.k::.k::.k::m
abbrev Wk (s:Nat) (m:List hb):List hb:=.o s::.o (s+1)::.o (s+2)::.o (s+3)::.o (s+4)::.o (s+5)::.o (s+6)::.o (s+7)::m
theorem YB {m:List hb}{s:Nat}{a pa b c d a5 zb Ab e ka jd Ua Uf Ff Nf ee:Value}{l Aa:List Value}(h:We m l Aa):We (Wk s m) (a::pa::b::c::d::a5::zb::Ab::l) (e::ka::jd::Ua::Uf::Ff::Nf::ee::Aa):=(.o (.o (.o (.o (.o (.o (.o (.o h))))))))
theorem ZB {t:Nat->Value}{m:List hb}{s:Nat}{a pa b c d a5 zb Ab:Value}{l Aa:List Value}(h:Df t m l Aa):Df t (Wk s m) (a::pa::b::c::d::a5::zb::Ab::l) (t s::t (s+1)::t (s+2)::t (s+3)::t (s+4)::t (s+5)::t (s+6)::t (s+7)::Aa):=(nb (nb (nb (nb (nb (nb (nb (nb h))))))))
abbrev sj (m:List hb):List hb:=.k::.k::.k::.k::.k::.k::.k::.k::.k::m
abbrev Sn (s:Nat) (m:List hb):List hb:=.o s::.o (s+1)::.o (s+2)::.o (s+3)::.o (s+4)::.o (s+5)::.o (s+6)::.o (s+7)::.o (s+8)::m
theorem zL {m:List hb}{a pa b c d a5 zb Ab mb:Value}{l Aa:List Value}(h:We m l Aa):We (sj m) (a::pa::b::c::d::a5::zb::Ab::mb::l) (a::pa::b::c::d::a5::zb::Ab::mb::Aa):=(.k (.k (.k (.k (.k (.k (.k (.k (.k h)))))))))
theorem Py {m:List hb}{s:Nat}{a pa b c d a5 zb Ab mb e ka jd Ua Uf Ff Nf ee uf:Value}{l Aa:List Value}(h:We m l Aa):We (Sn s m) (a::pa::b::c::d::a5::zb::Ab::mb::l) (e::ka::jd::Ua::Uf::Ff::Nf::ee::uf::Aa):=(.o (.o (.o (.o (.o (.o (.o (.o (.o h)))))))))
theorem AL {t:Nat->Value}{m:List hb}{a pa b c d a5 zb Ab mb:Value}{l Aa:List Value}(h:Df t m l Aa):Df t (sj m) (a::pa::b::c::d::a5::zb::Ab::mb::l) (a::pa::b::c::d::a5::zb::Ab::mb::Aa):=(mk (mk (mk (mk (mk (mk (mk (mk (mk h)))))))))
theorem BL {t:Nat->Value}{m:List hb}{s:Nat}{a pa b c d a5 zb Ab mb:Value}{l Aa:List Value}(h:Df t m l Aa):Df t (Sn s m) (a::pa::b::c::d::a5::zb::Ab::mb::l) (t s::t (s+1)::t (s+2)::t (s+3)::t (s+4)::t (s+5)::t (s+6)::t (s+7)::t (s+8)::Aa):=(nb (nb (nb (nb (nb (nb (nb (nb (nb h)))))))))
abbrev Pd (m:List hb):List hb:=.k::.k::.k::.k::.k::.k::.k::.k::.k::.k::m
abbrev Xc (s:Nat) (m:List hb):List hb:=.o s::.o (s+1)::.o (s+2)::.o (s+3)::.o (s+4)::.o (s+5)::.o (s+6)::.o (s+7)::.o (s+8)::.o (s+9)::m
theorem Lk {m:List hb}{a pa b c d a5 zb Ab mb e:Value}{l Aa:List Value}(h:We m l Aa):We (Pd m) (a::pa::b::c::d::a5::zb::Ab::mb::e::l) (a::pa::b::c::d::a5::zb::Ab::mb::e::Aa):=(.k (.k (.k (.k (.k (.k (.k (.k (.k (.k h))))))))))
theorem jn {m:List hb}{s:Nat}{a pa b c d a5 zb Ab mb e f ka jd Ua Uf Ff Nf ee uf Nc:Value}{l Aa:List Value}(h:We m l Aa):We (Xc s m) (a::pa::b::c::d::a5::zb::Ab::mb::e::l) (f::ka::jd::Ua::Uf::Ff::Nf::ee::uf::Nc::Aa):=(.o (.o (.o (.o (.o (.o (.o (.o (.o (.o h))))))))))
theorem At {t:Nat->Value}{m:List hb}{a pa b c d a5 zb Ab mb e:Value}{l Aa:List Value}(h:Df t m l Aa):Df t (Pd m) (a::pa::b::c::d::a5::zb::Ab::mb::e::l) (a::pa::b::c::d::a5::zb::Ab::mb::e::Aa):=(mk (mk (mk (mk (mk (mk (mk (mk (mk (mk h))))))))))
theorem tr {t:Nat->Value}{m:List hb}{s:Nat}{a pa b c d a5 zb Ab mb e:Value}{l Aa:List Value}(h:Df t m l Aa):Df t (Xc s m) (a::pa::b::c::d::a5::zb::Ab::mb::e::l) (t s::t (s+1)::t (s+2)::t (s+3)::t (s+4)::t (s+5)::t (s+6)::t (s+7)::t (s+8)::t (s+9)::Aa):=(nb (nb (nb (nb (nb (nb (nb (nb (nb (nb h))))))))))
abbrev Vc (m:List hb):List hb:=.k::.k::.k::.k::.k::.k::.k::.k::.k::.k::.k::.k::.k::.k::.k::.k::.k::.k::.k::.k::m
abbrev Of (s:Nat) (m:List hb):List hb:=.o s::.o (s+1)::.o (s+2)::.o (s+3)::.o (s+4)::.o (s+5)::.o (s+6)::.o (s+7)::.o (s+8)::.o (s+9)::.o (s+10)::.o (s+11)::.o (s+12)::.o (s+13)::.o (s+14)::.o (s+15)::.o (s+16)::.o (s+17)::.o (s+18)::.o (s+19)::m
theorem Zl {m:List hb}{a pa b c d a5 zb Ab mb e gd jc f g Ub yd i Ac j n:Value}{l Aa:List Value}(h:We m l Aa):We (Vc m) (a::pa::b::c::d::a5::zb::Ab::mb::e::gd::jc::f::g::Ub::yd::i::Ac::j::n::l) (a::pa::b::c::d::a5::zb::Ab::mb::e::gd::jc::f::g::Ub::yd::i::Ac::j::n::Aa):=(.k (.k (.k (.k (.k (.k (.k (.k (.k (.k (.k (.k (.k (.k (.k (.k (.k (.k (.k (.k h))))))))))))))))))))
theorem np {t:Nat->Value}{m:List hb}{a pa b c d a5 zb Ab mb e gd jc f g Ub yd i Ac j k:Value}{l Aa:List Value}(h:Df t m l Aa):Df t (Vc m) (a::pa::b::c::d::a5::zb::Ab::mb::e::gd::jc::f::g::Ub::yd::i::Ac::j::k::l) (a::pa::b::c::d::a5::zb::Ab::mb::e::gd::jc::f::g::Ub::yd::i::Ac::j::k::Aa):=(mk (mk (mk (mk (mk (mk (mk (mk (mk (mk (mk (mk (mk (mk (mk (mk (mk (mk (mk (mk h))))))))))))))))))))
theorem TV {t:Nat->Value}{m:List hb}{s:Nat}{a pa b c d a5 zb Ab mb e gd jc f g Ub yd i Ac j k:Value}{l Aa:List Value}(h:Df t m l Aa):Df t (Of s m) (a::pa::b::c::d::a5::zb::Ab::mb::e::gd::jc::f::g::Ub::yd::i::Ac::j::k::l) (t s::t (s+1)::t (s+2)::t (s+3)::t (s+4)::t (s+5)::t (s+6)::t (s+7)::t (s+8)::t (s+9)::t (s+10)::t (s+11)::t (s+12)::t (s+13)::t (s+14)::t (s+15)::t (s+16)::t (s+17)::t (s+18)::t (s+19)::Aa):=(nb (nb (nb (nb (nb (nb (nb (nb (nb (nb (nb (nb (nb (nb (nb (nb (nb (nb (nb (nb h))))))))))))))))))))
abbrev df (m:List hb):List hb:=.k::.k::.k::.k::.k::.k::.k::.k::.k::.k::.k::.k::.k::.k::.k::.k::.k::.k::.k::.k::.k::.k::.k::.k::.k::.k::.k::.k::.k::.k::.k::.k::.k::.k::.k::.k::.k::.k::.k::.k::.k::.k::.k::.k::.k::.k::.k::.k::.k::.k::m
abbrev Oj (s:Nat) (m:List hb):List hb:=.o s::.o (s+1)::.o (s+2)::.o (s+3)::.o (s+4)::.o (s+5)::.o (s+6)::.o (s+7)::.o (s+8)::.o (s+9)::.o (s+10)::.o (s+11)::.o (s+12)::.o (s+13)::.o (s+14)::.o (s+15)::.o (s+16)::.o (s+17)::.o (s+18)::.o (s+19)::.o (s+20)::.o (s+21)::.o (s+22)::.o (s+23)::.o (s+24)::.o (s+25)::.o (s+26)::.o (s+27)::.o (s+28)::.o (s+29)::.o (s+30)::.o (s+31)::.o (s+32)::.o (s+33)::.o (s+34)::.o (s+35)::.o (s+36)::.o (s+37)::.o (s+38)::.o (s+39)::.o (s+40)::.o (s+41)::.o (s+42)::.o (s+43)::.o (s+44)::.o (s+45)::.o (s+46)::.o (s+47)::.o (s+48)::.o (s+49)::m
theorem bm {m:List hb}{a pa b c d a5 zb Ab mb e gd jc f g Ub yd i Ac j n o p q r s t u v w x y z A B C D E F G H K L M N O P Q R S T:Value}{l Aa:List Value}(h:We m l Aa):We (df m) (a::pa::b::c::d::a5::zb::Ab::mb::e::gd::jc::f::g::Ub::yd::i::Ac::j::n::o::p::q::r::s::t::u::v::w::x::y::z::A::B::C::D::E::F::G::H::K::L::M::N::O::P::Q::R::S::T::l) (a::pa::b::c::d::a5::zb::Ab::mb::e::gd::jc::f::g::Ub::yd::i::Ac::j::n::o::p::q::r::s::t::u::v::w::x::y::z::A::B::C::D::E::F::G::H::K::L::M::N::O::P::Q::R::S::T::Aa):=(.k (.k (.k (.k (.k (.k (.k (.k (.k (.k (.k (.k (.k (.k (.k (.k (.k (.k (.k (.k (.k (.k (.k (.k (.k (.k (.k (.k (.k (.k (.k (.k (.k (.k (.k (.k (.k (.k (.k (.k (.k (.k (.k (.k (.k (.k (.k (.k (.k (.k h))))))))))))))))))))))))))))))))))))))))))))))))))
theorem vB {m:List hb}{s:Nat}{a pa b c d a5 zb Ab mb e gd jc f g Ub yd i Ac j k n p q r t u v w x y z A B C D E F G H K L M N O P Q R S T U V ka jd Ua Uf Ff Nf ee uf Nc nh W Ad Bg X Y Z bb Gb ig gc rl lc rc Sg fd id md nd rd wd tg Fd Id be ce ge ne Ne of wf If dg rg bi ci ii li pi Pi:Value}{l Aa:List Value}(h:We m l Aa):We (Oj s m) (a::pa::b::c::d::a5::zb::Ab::mb::e::gd::jc::f::g::Ub::yd::i::Ac::j::k::n::p::q::r::t::u::v::w::x::y::z::A::B::C::D::E::F::G::H::K::L::M::N::O::P::Q::R::S::T::U::l) (V::ka::jd::Ua::Uf::Ff::Nf::ee::uf::Nc::nh::W::Ad::Bg::X::Y::Z::bb::Gb::ig::gc::rl::lc::rc::Sg::fd::id::md::nd::rd::wd::tg::Fd::Id::be::ce::ge::ne::Ne::of::wf::If::dg::rg::bi::ci::ii::li::pi::Pi::Aa):=(.o (.o (.o (.o (.o (.o (.o (.o (.o (.o (.o (.o (.o (.o (.o (.o (.o (.o (.o (.o (.o (.o (.o (.o (.o (.o (.o (.o (.o (.o (.o (.o (.o (.o (.o (.o (.o (.o (.o (.o (.o (.o (.o (.o (.o (.o (.o (.o (.o (.o h))))))))))))))))))))))))))))))))))))))))))))))))))
theorem wB {t:Nat->Value}{m:List hb}{a pa b c d a5 zb Ab mb e gd jc f g Ub yd i Ac j k n o p q r s u v w x y z A B C D E F G H K L M N O P Q R S T:Value}{l Aa:List Value}(h:Df t m l Aa):Df t (df m) (a::pa::b::c::d::a5::zb::Ab::mb::e::gd::jc::f::g::Ub::yd::i::Ac::j::k::n::o::p::q::r::s::u::v::w::x::y::z::A::B::C::D::E::F::G::H::K::L::M::N::O::P::Q::R::S::T::l) (a::pa::b::c::d::a5::zb::Ab::mb::e::gd::jc::f::g::Ub::yd::i::Ac::j::k::n::o::p::q::r::s::u::v::w::x::y::z::A::B::C::D::E::F::G::H::K::L::M::N::O::P::Q::R::S::T::Aa):=(mk (mk (mk (mk (mk (mk (mk (mk (mk (mk (mk (mk (mk (mk (mk (mk (mk (mk (mk (mk (mk (mk (mk (mk (mk (mk (mk (mk (mk (mk (mk (mk (mk (mk (mk (mk (mk (mk (mk (mk (mk (mk (mk (mk (mk (mk (mk (mk (mk (mk h))))))))))))))))))))))))))))))))))))))))))))))))))
theorem Ch {m:List hb}{v a:Value}{l Aa:List Value}(h:We m l Aa):We (.i v::m) (a::l) (v::Aa):=.i h
theorem Uj {l:List Value}:We [] l l:=.z
section
open Go.RowKit
section
variable {P:Program}{Q:Exit->Act->World->Prop}{ops:Array Oper}{fr ya:List Value}{ds:List Deferred}{w:World}
theorem JC (ops:Array Oper) (fr:List Value) (ds:List Deferred) (j:Nat):yielded ops (F fr ds).tmps j=match (ops[j]?).bind (·.dst) with | some s=>(match (F fr ds).eval (.tmp s) with | .bool b=>some b | _=>none) | none=>none:=by
 unfold yielded;cases h:(ops[j]?).bind (·.dst) with
 | none=>simp
 | some s =>
  simp only [Option.bind_some,F,Act.eval];cases a:(⟨fr⟩:Array Value)[s]? with
  | none =>
   have:(⟨fr⟩:Array Value).getD s undef=undef:=by simp [Array.getD_eq_getD_getElem?,a]
   first
    | (simp [a,undef]; done)
    | (rw [this]; simp [undef])
  | some v =>
   have:(⟨fr⟩:Array Value).getD s undef=v:=by simp [Array.getD_eq_getD_getElem?,a]
   first
    | (simp [a]; done)
    | (rw [this]; cases v <;> rfl)
theorem wanted_put {o p:Oper}{fr:List Value}{ds ds':List Deferred}{g:List Value->List Value}(c:∀ (y:Operand),(∀ e,p.dst=some e->Du y≠some e)->(F (g fr) ds).eval y=(F fr ds).eval y) (d:∀ e,p.dst=some e->(reads ops o).contains e=false) :
  Region.wanted o (yielded ops (F (g fr) ds').tmps)=Region.wanted o (yielded ops (F fr ds').tmps):=by
 have lb:(F (g fr) ds').tmps=(F (g fr) ds).tmps:=rfl;have sa:(F fr ds').tmps=(F fr ds).tmps:=rfl;rw [lb,sa];unfold Region.wanted;cases f:o.guard with
 | none=>rfl
 | some h =>
  obtain ⟨j,b⟩:=h;simp only;have:yielded ops (F (g fr) ds).tmps j=yielded ops (F fr ds).tmps j:=by
   rw [JC,JC];cases i:(ops[j]?).bind (·.dst) with
   | none=>rfl
   | some s =>
    simp only;rw [c (.tmp s) λe k a=>by
     simp [Du] at a;subst a;have:=d s k;unfold reads at this;rw [f] at this;simp [i] at this]
  first
   | rw [this]
   | simp [this]
theorem PI {o:Oper}{j d:Nat}{b Rc:Bool}(a:o.guard=some (j,b)) (c:(ops[j]?).bind (·.dst)=some d) (la:Zb fr d (.bool Rc)):Region.wanted o (yielded ops (F fr ds).tmps)=(Rc == b):=by
 unfold Region.wanted;rw [a];simp only;have:yielded ops (F fr ds).tmps j=some Rc:=by
  rw [JC,c];simp only;rw [ba la ds]
 rw [this];cases b<;>cases Rc<;>rfl
theorem hj {o:Oper}(a:o.guard=none):Region.wanted o (yielded ops (F fr ds).tmps)=true:=by simp [Region.wanted,a]
theorem cr {o:Oper}{j d:Nat}{b:Bool}(a:o.guard=some (j,b)) (c:(ops[j]?).bind (·.dst)=some d) (la:Zb fr d (.bool b)):Region.wanted o (yielded ops (F fr ds).tmps)=true :=
 (PI a c la).trans (by cases b<;>rfl)
end
end
section
open Go.RowKit
section
variable {P:Program}{Q:Exit->Act->World->Prop}{ops:Array Oper}{fr ya:List Value}{ds:List Deferred}{w:World}
def waits (ops:Array Oper) (R S:List Nat) (i:Nat):Bool:=S.all λj=>j == i || S.any λk=>(nj ops j).contains k && R.contains k
theorem Tl.later {R d:List Nat}(h:Tl ops R d) (n:R.Nodup){i:Nat}{S:List Nat}(o:∀ j ∈ S,j=i\/∃ k ∈ S,k ∈ nj ops j/\k ∈ R):∀ a c,d=a++i::c->i ∉ a->∀ j ∈ a,j ∉ S:=by
 induction h with
 | z=>intro a c h; simp at h
 | @s R d k u t v =>
  intro a c h p j b;cases a with
  | nil=>cases b
  | cons e a =>
   simp only [List.cons_append,List.cons.injEq] at h;obtain ⟨rfl,h⟩:=h;have r:k ∉ S:=λf=>by
    rcases o k f with rfl | ⟨q,g,l,m⟩
    ·exact p (by simp)
    ·exact vH u l m
   rcases List.mem_cons.1 b with rfl | b
   ·exact r
   ·refine v (n.erase k) (λj b=>?_) a c h (λf=>p (by simp [f])) j b;rcases o j b with rfl | ⟨q,g,l,m⟩
    ·exact .inl rfl
    ·exact .inr ⟨q,g,l,(n.mem_erase_iff).2 ⟨λe=>r<|e ▸ g,m⟩⟩
end
end
open Go.RowKit
section
variable {P:Program}{Q:Exit->Act->World->Prop}{K:List Value->List Deferred->World->Prop}{fr ya:List Value}{ds:List Deferred}{w:World}
variable {dst:Option Tmp}{ty:TypeId}{pos:String}{after:Array Edge}{g:Option (Nat×Bool)}
variable {S Jc:Nat->Prop}{da:World}{rs rs':List Ha}{A:World->Prop}
variable {T:TypeId}{d:TypeDesc}{mc:Bool}{zc:List Value}{n m:Nat}
inductive bw (fr:List Value) (n:Nat):Nat->List (Nat×Operand)->List Value->Prop where
 | z {i:Nat}:bw fr n i [] []
 | s {i:Nat} {x:Operand} {v:Value} {cs rest:List Value} {xs:List (Nat×Operand)} (a:ab fr x v) (Oa:v.cells=⟨cs⟩) (b:cs.length=n) (t:bw fr n (i+1) xs rest):bw fr n i ((i,x)::xs) (cs++rest)
theorem bw.fill {i:Nat}{xs:List (Nat×Operand)}{cells:List Value}(h:bw fr n i xs cells):∀ a:List Value,a.length=i*n+cells.length ->
  Instr.fill (λi=>some (i*n,n)) ⟨a⟩ (xs.map λp=>(p.1,(F fr ds).eval p.2))=some ⟨a.take (i*n)++cells⟩:=by
 induction h with
 | z=>intro a b; simp at b; simp [Instr.fill,<- b]
 | @s i x v cs rest xs f Oa c t g =>
  intro a b;simp only [List.length_append] at b;have d:(i+1)*n=i*n+n:=by rw [Nat.add_mul,Nat.one_mul]
  simp only [List.map_cons,Instr.fill,f ds,Oa];have lb:¬ (((⟨cs⟩:Array Value).size≠n || i*n+(⟨cs⟩:Array Value).size > (⟨a⟩:Array Value).size)=true):=by simp [c,b]
  rw [if_neg lb];have j:=pz cs (i*n) 0 a (by omega);have sa:(⟨cs⟩:Array Value).zipIdx.toList=cs.zipIdx 0:=by simp
  have e:(⟨cs⟩:Array Value).zipIdx.foldl (λ(cs:Array Value) (p:Value×Nat)=>cs.setIfInBounds (i*n+p.2) p.1) ⟨a⟩=⟨a.take (i*n+0)++cs++a.drop (i*n+0+cs.length)⟩:=by
   rw [<- Array.foldl_toList,sa];exact j
  first
   | rw [e]
   | (erw [e])
  rw [g _ (by simp [d,c,b];omega)];congr 2;rw [d,c,Nat.add_zero];have:(a.take (i*n)++cs).length=i*n+n:=by simp [c];omega
  rw [<- this,List.take_left,List.append_assoc]
theorem nF {e:TypeId}{len:Nat}{xs:List (Nat×Operand)}{cells:List Value}(f:P.underlying T=some (.slice e)) (c:wb P e mc zc n m) (a:(decide (0<n) && decide (n<=1000) && decide (0<len) && decide (len<=1000))=true) (j:bw fr n 0 xs cells) (k:cells.length=len*n) (l:Sep S Jc da w rs A)
  (h:∀ b w',w.heap.size<=b->Sep S Jc da w' (.ea b e cells::rs) A->Hg fr dst (.slice (some ⟨b,0,none⟩) len len) λya=>K ya ds w'):pd P (Oper.mk dst (.buildSlice T len ⟨xs⟩) ty pos after g) fr ds w K Q:=by
 obtain ⟨ya,Ca⟩:=Fi fr dst (.slice (some ⟨w.heap.size,0,none⟩) len len);refine Fh (v:=.slice (some ⟨w.heap.size,0,none⟩) len len) (w':=w.alloc (.cells ⟨cells⟩ e)) ?_ Ca<|h _ _ (Nat.le_refl _) (l.alloc rfl<|heap_alloc_new w _) ya Ca;obtain ⟨z,o,u⟩:=c.zero (w:=w);have q:=c.sizeOf (w:=w);simp only [Bool.and_eq_true,decide_eq_true_eq] at a;have hmul:len*n<=1000*1000:=Nat.mul_le_mul a.2 a.1.1.2;have r:¬ (len*n > 2 ^ 24):=by omega
 have s:¬ (len*n=0):=by
  have:=Nat.mul_pos a.1.2 a.1.1.1;omega
 have la:((⟨xs⟩:Array (Nat×Operand)).map λ(i,x)=>(i,(F fr ds).eval x)).toList=xs.map λp=>(p.1,(F fr ds).eval p.2):=by simp
 have d:=j.fill (ds:=ds) ((Array.range (len*n)).map (z.cells[· % z.cells.size]!)).toList (by simp [k]);simp only [execOp,Instr.buildSlice,Sem.run_bind,run_underlying f,Result.andThen_ok,q,if_neg r,if_neg s,o,Sem.run_pure,la];have t:(⟨((Array.range (len*n)).map (z.cells[· % z.cells.size]!)).toList⟩:Array Value)=(Array.range (len*n)).map (z.cells[· % z.cells.size]!):=rfl;rw [t] at d;simp only [d];simp [newRow]
structure Yy (P:Program) (c:Code) (Q:Exit->Act->World->Prop) (n:Nat) (fr:List Value) (ds:List Deferred) (w:World):Prop where
 out:Code.rounds P c Q n (F fr ds) w
theorem HE {c:Code}(n:Nat) (h:Yy P c Q n fr ds w):ud P (.loop c) Q fr ds w:=⟨wp_loop_rounds n h.out⟩
theorem qp {c:Code}{n:Nat}(h:ud P c (Exit.then (λa w=>∃ fr ds,a=F fr ds/\Yy P c Q n fr ds w) Q) fr ds w):Yy P c Q (n+1) fr ds w:=⟨by
 rw [rounds_succ];refine wp_mono h.out λe a w b=>?_;cases e with
 | normal=>obtain ⟨fr,ds,rfl,h⟩:=b; exact h.out
 | exit id=>exact b
 | goto l=>exact b
 | ret=>exact b
 | panic d=>exact b
 | outgrown=>exact b⟩
theorem Bt {c:Code}{n:Nat}(h:Yy P c Q n fr ds w):Exit.then (λa w=>∃ fr ds,a=F fr ds/\Yy P c Q n fr ds w) Q .normal (F fr ds) w:=⟨_,_,rfl,h⟩
theorem jJ {f:Operand}{xs:List Operand}{tys:Array TypeId}{k:FuncId}{first cap vs:List Value}{R:Value->World->Prop}(b:fb P k) (c:ab fr f (.func (.func k) ⟨first⟩ ⟨cap⟩)) (d:Om fr xs vs)
  (i:kb P k (first++vs++cap) w R) (h:∀ v w',R v w'->Hg fr dst v λya=>K ya ds w'):pd P (Oper.mk dst (.call { callee:=.value f,args:=⟨xs⟩,argTypes:=tys }) ty pos after g) fr ds w K Q:=by
 refine FA (args:=first++vs++cap) ?_ i h;have j:=c ds;have l:=d ds;have a:=b.out ⟨first++vs++cap⟩ w;have e:(⟨first⟩:Array Value)++(⟨vs⟩:Array Value)++(⟨cap⟩:Array Value)=⟨first++vs++cap⟩:=by
  apply Array.ext';simp
 simp only [List.append_assoc] at a e ⊢;simp [execOp,resolve,j,Deferred.ofValue,invoke,l];first
  | exact a
  | (simpa using a)
end
end Go.Bc
namespace Go.Re
open Go.Bc Go.RowKit
section
variable {P:Program}{Q:Exit->Act->World->Prop}{K:List Value->List Deferred->World->Prop}{fr ya:List Value}{ds:List Deferred}{w:World}
variable {dst:Option Tmp}{ty:TypeId}{pos:String}{after:Array Edge}{g:Option (Nat×Bool)}
variable {da:World}{rs rs':List Ha}{μ J:M}
variable {T:TypeId}{d:TypeDesc}{mc:Bool}{zc:List Value}{n m:Nat}
def okV (R:Value->World->Prop):Ending->World->Prop
 | .returned v,w=>R v w
 | _,_=>False
def nt (P:Program) (fn:Func) (R:Value->World->Prop):Exit->Act->World->Prop
 | .panic _,_,_=>False
 | e,a,w=>bodyPostD P fn (okV R) e a w
theorem ey {f:FuncId}{fn:Func}{c:Code}{args frm:List Value}{R:Value->World->Prop}(d:P.funcs[f]?=some fn) (g:fn.body=some c)
  (i:args++List.replicate (fn.ntmps - args.length) undef=frm) (h:ud P c (nt P fn R) frm [] w):kb P f args w R:=by
 refine ⟨Calls.mono (calls_of_wp_defers (R:=okV R) d g ?_) λe w j=>by cases e<;>exact j⟩;subst i;have sa:(⟨args⟩:Array Value)++Array.replicate (fn.ntmps - args.length) undef=⟨args++List.replicate (fn.ntmps - args.length) undef⟩:=by
  apply Array.ext';simp
 have h:=wp_mono h.out (Q':=bodyPostD P fn (okV R)) λe a w b=>by
  cases e<;>first | exact b | exact (False.elim b)
 simpa [F,sa] using h
structure HA (P:Program) (f:FuncId) (args:List Value) (w:World) (R:Value->World->Prop):Prop where
 out:∀ u,CallsD P f ⟨args⟩ u w λe a w'=>a=u/\okV R e w'
theorem kJ {f:FuncId}{fn:Func}{c:Code}{args frm:List Value}{R:Value->World->Prop}(d:P.funcs[f]?=some fn) (g:fn.body=some c)
  (j:args++List.replicate (fn.ntmps - args.length) undef=frm) (h:ud P c (lq P fn R) frm [] w):HA P f args w R:=by
 refine ⟨λu=>callsD_of_wp d g ?_⟩;subst j;have sa:(⟨args⟩:Array Value)++Array.replicate (fn.ntmps - args.length) undef=⟨args++List.replicate (fn.ntmps - args.length) undef⟩:=by
  apply Array.ext';simp
 have h:=wp_mono h.out (Q':=bodyPost P fn (okV R)) λe a w b=>by
  cases e with
  | normal=>exact b
  | ret=>exact b
  | panic k=>exact b
  | exit i=>exact b
  | goto l=>exact b
  | outgrown=>exact b
 simpa [F,sa] using h
theorem Vx {f:Operand}{xs:List Operand}{tys:Array TypeId}{k:FuncId}{cap vs:List Value}(a:ab fr f (.func (.func k) #[] ⟨cap⟩)) (b:Om fr xs vs)
  (c:zf fr dst undef ya) (h:K ya (⟨.fn (.func k) ⟨cap⟩,⟨vs⟩⟩::ds) w):pd P (Oper.mk dst (.defer { callee:=.value f,args:=⟨xs⟩,argTypes:=tys }) ty pos after g) fr ds w K Q:=by
 constructor;intro l d;have e:=a ds;have i:=b ds;have j:(execOp (F fr ds).eval (Oper.mk dst (.defer { callee:=.value f,args:=⟨xs⟩,argTypes:=tys }) ty pos after g)).run P w=.ok (.defer ⟨.fn (.func k) ⟨cap⟩,⟨vs⟩⟩) w:=by
  simp [execOp,resolve,e,Deferred.ofValue,i]
 unfold Oper.wp;rw [j];have:=d _ _ _ h;rw [<- c _] at this;simpa [Oper.upon,F,Act.put] using this
theorem xB {fn:Func}{R b:Value->World->Prop}{k:FuncId}{cap vs:List Value}(d:fb P k) (f:HA P k (vs++cap) w b) (h:∀ v w',b v w'->nt P fn R .ret (F fr ds) w') :
  nt P fn R .ret (F fr (⟨.fn (.func k) ⟨cap⟩,⟨vs⟩⟩::ds)) w:=by
 refine ⟨by simp,.func k,⟨cap⟩,k,⟨vs++cap⟩,rfl,?_,?_⟩
 ·have:=d.out ⟨vs++cap⟩ w;simp [invoke,this]
 ·refine (f.out .returning).mono λe g w' a=>?_;obtain ⟨rfl,a⟩:=a;cases e with
  | returned v=>exact h v w' a
  | panicked c=>exact a.elim
  | outgrown=>exact a.elim
theorem cq {fn:Func}{R:Value->World->Prop}{a:List ResultVar}{vs:List Value}(b:fn.results=⟨a⟩) (Oa:ib P fr w a vs) (h:R (Pu vs) w):nt P fn R .ret (F fr []) w :=
 ⟨_,uH b Oa,h⟩
def Hc (ms:List (Nat×List MapEntry×Nat)):List Ha:=(ms.map λm=>.map m.1 m.2.1 m.2.2).reverse
def Kd (ms:List (Nat×List MapEntry×Nat)):List Value:=ms.map λm=>.map (some m.1)
variable {κ β:Type}[DecidableEq κ] [hb κ] [Ih β]
def me (μ:M):List (Nat×List MapEntry×Nat)->List (List (κ×β))->Prop
 | [],Od=>Od=[]
 | m::ms,Od=>∃ x t,Od=x::t/\ke μ m.2.1 m.2.2 x/\me μ ms t
theorem me.up (l:ha μ J):∀ {ms:List (Nat×List MapEntry×Nat)}{Od:List (List (κ×β))},me μ ms Od->me J ms Od
 | [],Od,h=>by rw [me] at h ⊢; exact h
 | m::ms,Od,h=>by
  rw [me] at h ⊢;obtain ⟨x,t,a,b,c⟩:=h;exact ⟨x,t,a,b.up l,me.up l c⟩
theorem me.get:∀ {ms:List (Nat×List MapEntry×Nat)}{Od:List (List (κ×β))}{i:Nat}{x:List (κ×β)},me μ ms Od->Od[i]?=some x->∃ b es c,ms[i]?=some (b,es,c)/\ke μ es c x
 | [],Od,i,x,h,a=>by rw [me] at h; subst h; simp at a
 | m::ms,Od,i,x,h,a=>by
  rw [me] at h;obtain ⟨y,t,rfl,d,e⟩:=h;cases i with
  | zero=>simp at a; subst a; exact ⟨m.1,m.2.1,m.2.2,rfl,d⟩
  | succ i=>simp at a; simpa using me.get e a
theorem me.set:∀ {ms:List (Nat×List MapEntry×Nat)}{Od:List (List (κ×β))}{i:Nat}{e:Nat×List MapEntry×Nat}{x:List (κ×β)},me μ ms Od->ke μ e.2.1 e.2.2 x->me μ (ms.set i e) (Od.set i x)
 | [],Od,i,e,x,h,a=>by rw [me] at h; subst h; simp [me]
 | m::ms,Od,i,e,x,h,a=>by
  rw [me] at h;obtain ⟨y,t,rfl,c,b⟩:=h;cases i with
  | zero=>exact ⟨x,t,rfl,a,b⟩
  | succ i=>exact ⟨y,_,rfl,c,me.set b a⟩
theorem me.push:∀ {ms:List (Nat×List MapEntry×Nat)}{Od:List (List (κ×β))}{e:Nat×List MapEntry×Nat}{x:List (κ×β)},me μ ms Od->ke μ e.2.1 e.2.2 x->me μ (ms++[e]) (Od++[x])
 | [],Od,e,x,h,a=>by rw [me] at h; subst h; exact ⟨x,[],rfl,a,rfl⟩
 | m::ms,Od,e,x,h,a=>by
  rw [me] at h;obtain ⟨y,t,rfl,b,c⟩:=h;exact ⟨y,_,rfl,b,me.push c a⟩
theorem me.take:∀ {ms:List (Nat×List MapEntry×Nat)}{Od:List (List (κ×β))}(j:Nat),me μ ms Od->me μ (ms.take j) (Od.take j)
 | [],Od,j,h=>by rw [me] at h; subst h; simp [me]
 | m::ms,Od,j,h=>by
  rw [me] at h;obtain ⟨y,t,rfl,a,b⟩:=h;cases j with
  | zero=>simp [me]
  | succ j=>exact ⟨y,_,rfl,a,me.take j b⟩
theorem iM (ms:List (Nat×List MapEntry×Nat)) (e:Nat×List MapEntry×Nat):Hc (ms++[e])=.map e.1 e.2.1 e.2.2::Hc ms:=by simp [Hc]
theorem yM {ms:List (Nat×List MapEntry×Nat)}{i b c c':Nat}{es a:List MapEntry}(h:ms[i]?=some (b,es,c)):Kd (ms.set i (b,a,c'))=Kd ms:=by
 unfold Kd;refine List.ext_getElem? λj=>?_;rw [List.getElem?_map,List.getElem?_map,List.getElem?_set];split
 ·rename_i d;subst d;have e:=(List.getElem?_eq_some_iff.1 h).1;rw [if_pos e,h];rfl
 ·rfl
theorem zM {ms:List (Nat×List MapEntry×Nat)}{i b c:Nat}{es:List MapEntry}(h:ms[i]?=some (b,es,c)):Ha.map b es c ∈ Hc ms:=by
 unfold Hc;rw [List.mem_reverse,List.mem_map];exact ⟨(b,es,c),List.mem_of_getElem? h,rfl⟩
theorem _root_.Go.Bc.Sep.BU {pre:List Ha}{ms:List (Nat×List MapEntry×Nat)}{i b c:Nat}{es:List MapEntry}(a:fa μ da w (pre++(Hc ms++rs))) (h:ms[i]?=some (b,es,c)):w.heap[b]?=some (.map ⟨es⟩ c):=
 a.all (.map b es c) (by simp [zM h])
theorem Row.mapElem {v:Value}{ms:List (Nat×List MapEntry×Nat)}{Od:List (List (κ×β))}{i:Int}{x:List (κ×β)}(h:Row w v T 1 Od.length (Kd ms)) (e:me μ ms Od) (g:at_ Od i=some x) :
  ∃ b o xb es c,Dk v 1 i b o/\(∀ w T,Row w v T 1 Od.length (Kd ms)->dj w b o [.map (some xb)])/\ms[i.toNat]?=some (xb,es,c)/\ke μ es c x:=by
 obtain ⟨f,k,l⟩:=Ju g;obtain ⟨xb,es,c,d,m⟩:=e.get l;obtain ⟨b,o,q,rfl,r⟩:=h.Ln (by omega);refine ⟨b,o+i.toNat,xb,es,c,⟨o,_,_,rfl,f,k,by simp⟩,λs t n j u a=>?_,d,m⟩;obtain ⟨Rc,y,c',Oa,p⟩:=n.Ln (by omega);simp at Oa;obtain ⟨⟨rfl,rfl⟩,rfl⟩:=Oa;cases j with
 | succ j=>simp at a
 | zero =>
  simp at a;subst a;have:(Kd ms)[i.toNat]?=some (.map (some xb)):=by unfold Kd;rw [List.getElem?_map,d];rfl
  exact p _ _ this
theorem lJ {x y z:Operand}{je ba:TypeId}{v:Value}{pre:List Ha}{ms:List (Nat×List MapEntry×Nat)}{b c i:Nat}{es:List MapEntry}{kk:κ}{q:List (κ×β)}{xx:β}{Od:List (List (κ×β))}(o:P.underlying T=some (.map je ba)) (p:P.underlying je=some (hb.hd (κ:=κ))) (r:ab fr x (.map (some b))) (s:ab fr y (hb.key kk)) (t:ab fr z v) (Oa:Ih.ij μ v xx)
  (u:fa μ da w (pre++(Hc ms++rs))) (d:ms[i]?=some (b,es,c)) (k:ke μ es c q) (A:me μ ms Od)
  (Ca:zf fr dst undef ya) (h:∀ f w',me μ f (Od.set i (dd q kk xx))->Kd ms=Kd f->Od.length=(Od.set i (dd q kk xx)).length->fa μ da w' (pre++(Hc f++rs))->K ya ds w'):pd P (Oper.mk dst (.mapUpdate T x y z) ty pos after g) fr ds w K Q:=by
 have C:=(List.getElem?_eq_some_iff.1 d).1;have B:(pre++(Hc ms++rs))[pre.length+(ms.length - 1 - i)]?=some (.map b es c):=by
  rw [List.getElem?_append_right (by omega),Nat.add_sub_cancel_left,List.getElem?_append_left (by simp [Hc];omega)];unfold Hc;rw [List.getElem?_reverse (by simp;omega),List.length_map,show ms.length - 1 - (ms.length - 1 - i)=i by omega,List.getElem?_map,d];rfl
 refine TJ o p r s (hb.je kk) t u B k.kv.keys Ca λw' rs' l m=>h _ w' (A.set (e:=(b,putAt es c (hb.key kk) v,Nj es c (hb.key kk)))<|k.put kk Oa) (yM d).symm (by simp) ?_;unfold Xb at l;subst l;have e:(pre++(Hc ms++rs)).set (pre.length+(ms.length - 1 - i)) (.map b (putAt es c (hb.key kk) v) (Nj es c (hb.key kk)))=pre++(Hc (ms.set i (b,putAt es c (hb.key kk) v,Nj es c (hb.key kk)))++rs):=by
  rw [List.set_append_right _ _ (by omega),Nat.add_sub_cancel_left,List.set_append_left _ _ (by simp [Hc];omega)];congr 2;unfold Hc;rw [List.map_set];refine List.ext_getElem? λj=>?_;rcases Nat.lt_or_ge j ms.length with a | a
  ·rw [List.getElem?_set,List.getElem?_reverse (by simpa using a),List.getElem?_reverse (by simpa using a)];simp only [List.length_map,List.length_reverse,List.length_set,List.getElem?_set];by_cases n:ms.length - 1 - i=j
   ·rw [if_pos n,if_pos (by omega),if_pos (by omega),if_pos (by omega)]
   ·rw [if_neg n,if_neg (by omega)]
  ·rw [List.getElem?_eq_none (by simpa using a),List.getElem?_eq_none (by simpa using a)]
 rw [e] at m;exact m
theorem VJ {t:TypeId}{s x:Operand}{v:Value}{bytes k b xb c:Nat}{ms:List (Nat×List MapEntry×Nat)}{Od d:List (List (κ×β))}(e:P.underlying t=some (.slice T)) (f:wb P T mc zc 1 bytes) (i:zc.length=1)
  (j:ab fr s v) (l:ab fr x (.slice (some ⟨b,0,none⟩) 1 c)) (m:fa μ da w rs) (la:Zb rs k (.row v T 1 Od.length (Kd ms))) (n:dj w b 0 [.map (some xb)]) (o:app Od [([]:List (κ×β))]=some d) (p:bytes<=4096)
  (h:∀ a w' rs',Xb rs k (.row a T 1 d.length (Kd ms++[.map (some xb)])) rs'->fa μ da w' rs'->Hg fr dst a λya=>K ya ds w') :
  pd P (Oper.mk dst (.call { callee:=.builtin .append,args:=#[s,x],argTypes:=#[t,t] }) ty pos after g) fr ds w K Q:=by
 obtain ⟨q,r⟩:=GA o;refine su e f (by simp [i]) j l m la n rfl rfl ⟨r,p⟩ λa w' rs' u=>h a w' rs' (by rw [q];exact u)
theorem _root_.Go.Bc.Sep.FK {pre:List Ha}{ms:List (Nat×List MapEntry×Nat)}{b c:Nat}{es:List MapEntry}(a:fa μ da w (pre++(.map b es c::(Hc ms++rs)))):fa μ da w (pre++(Hc (ms++[(b,es,c)])++rs)):=by
 rw [iM];exact a
theorem lH (ms:List (Nat×List MapEntry×Nat)) (b c:Nat) (es:List MapEntry):Kd ms++[.map (some b)]=Kd (ms++[(b,es,c)]):=by simp [Kd]
theorem _root_.Go.Bc.Sep.yB {pre:List Ha}{ms:List (Nat×List MapEntry×Nat)}{j:Nat}(a:fa μ da w (pre++(Hc ms++rs))):fa μ da w (pre++(Hc (ms.take j)++rs)):=by
 have c:(pre++(Hc (ms.take j)++rs)).Sublist (pre++(Hc ms++rs)):=by
  refine (List.Sublist.refl pre).append (List.Sublist.append ?_<|List.Sublist.refl rs);unfold Hc;exact ((List.take_sublist j ms).map _).reverse
 refine ⟨a.keeps,λr e=>a.all r<|c.subset e,(c.filterMap _).nodup a.oi,λb f=>a.new b<|(c.filterMap _).subset f,?_⟩;refine a.Xi.mono λk _ d=>⟨d.1,λg=>d.2<|(c.filterMap Ha.block).subset g⟩
theorem Row.GK {v:Value}{sz:Nat}{xs:List Value}{j:Int}(h:Row w v T sz n xs) (c:0<=j) (m:j<=n) :
  ∃ a,Zu v sz none (some j) a/\a.ownBlock=v.ownBlock/\∀ w T,Row w v T sz n xs->Row w a T sz j.toNat (xs.take (j.toNat*sz)):=by
 have la:∀ w T,Row w v T sz n xs->(xs.take (j.toNat*sz)).length=j.toNat*sz:=λw T h=>by
  rw [List.length_take,h.1];exact Nat.min_eq_left<|Nat.mul_le_mul_right _ (by omega)
 rcases h.2 with ⟨rfl,rfl⟩ | ⟨g,o,cap,cur,rfl,p,q,r,s,t⟩
 ·have:j=0:=by omega
  subst this;exact ⟨.slice none 0 0,⟨none,0,0,rfl,by simp,by simp,by simp,by simp⟩,rfl,λw T h=>⟨la w T h,.inl ⟨rfl,rfl⟩⟩⟩
 ·refine ⟨.slice (some ⟨g,o,none⟩) j.toNat cap,⟨_,_,_,rfl,by simp,by simpa using c,by simp;omega,?_⟩,rfl,λd e b=>⟨la d e b,.inr ?_⟩⟩
  ·simp [tk]
  ·rcases b.2 with ⟨Oa,_⟩ | ⟨u,x,cap',f,Oa,i,k1,k,l,Xe⟩
   ·simp at Oa
   ·simp at Oa;obtain ⟨⟨rfl,rfl⟩,rfl⟩:=Oa;exact ⟨g,o,cap,f,rfl,i,by omega,k,l,by rw [<- Xe,List.take_take,Nat.min_eq_left (Nat.mul_le_mul_right _ (by omega))]⟩
theorem Row.cutFrom {v:Value}{sz:Nat}{xs:List Value}{i:Int}(h:Row w v T sz n xs) (f:0<=i) (j:i<=n) :
  ∃ a,Zu v sz (some i) none a/\a.ownBlock=v.ownBlock/\∀ w T,Row w v T sz n xs->Row w a T sz (n - i.toNat) (xs.drop (i.toNat*sz)):=by
 have la:∀ w T,Row w v T sz n xs->(xs.drop (i.toNat*sz)).length=(n - i.toNat)*sz:=λw T h=>by
  rw [List.length_drop,h.1,Nat.sub_mul]
 rcases h.2 with ⟨rfl,rfl⟩ | ⟨g,o,cap,cur,rfl,m,p,q,r,s⟩
 ·have:i=0:=by omega
  subst this;exact ⟨.slice none 0 0,⟨none,0,0,rfl,by simp,by simp,by simp,by simp⟩,rfl,λw T h=>⟨la w T h,.inl ⟨rfl,by simp⟩⟩⟩
 ·refine ⟨_,⟨_,_,_,rfl,by simpa using f,by simpa using j,by simp;omega,rfl⟩,by simp only [Option.getD_some];split<;>simp [Value.ownBlock,tk],λk l b=>⟨la k l b,.inr ?_⟩⟩;rcases b.2 with ⟨Oa,_⟩ | ⟨t,u,cap',c,Oa,d,k1,x,y,Xe⟩
  ·simp at Oa
  ·simp at Oa;obtain ⟨⟨rfl,rfl⟩,rfl⟩:=Oa;have hmul:i.toNat*sz+(cap - i.toNat)*sz=cap*sz:=by rw [<- Nat.add_mul];congr 1;omega
   by_cases e:cap=i.toNat
   ·refine ⟨g,o,cap - i.toNat,c,by simp [e],d,by omega,by omega,by omega,?_⟩;rw [show n - i.toNat=0 by omega,Nat.zero_mul,List.take_zero,List.drop_eq_nil_of_le (by rw [b.1];exact Nat.mul_le_mul_right _ (by omega))]
   ·refine ⟨g,o+i.toNat*sz,cap - i.toNat,c,by simp [e,tk],d,by omega,by omega,by omega,?_⟩;rw [<- Xe,<- List.drop_drop,List.drop_take,Nat.sub_mul]
theorem qa.drop {α:Type}[Ja α]:∀ {l:List α}{cells:List Value}(i:Nat),qa μ cells l->qa μ (cells.drop (i*Ja.sz α)) (l.drop i)
 | [],cells,i,h=>by rw [qa] at h; subst h; simp [qa]
 | x::l,cells,0,h=>by simpa using h
 | x::l,cells,i+1,h=>by
  rw [qa] at h;obtain ⟨cs,t,rfl,a,b⟩:=h;have e:(i+1)*Ja.sz α=cs.length+i*Ja.sz α:=by rw [Nat.add_mul,Ja.Qh a];omega
  rw [e,<- List.drop_drop];simpa using qa.drop i b
theorem Row.fL {α:Type}[Ja α]{v:Value}{cells:List Value}{l Aa:List α}{i:Int}(h:Row w v T (Ja.sz α) l.length cells) (c:qa μ cells l) (g:cut l i l.length=some Aa) :
  ∃ a b,Zu v (Ja.sz α) (some i) none a/\a.ownBlock=v.ownBlock/\(∀ w T,Row w v T (Ja.sz α) l.length cells->Row w a T (Ja.sz α) Aa.length b)/\qa μ b Aa:=by
 obtain ⟨⟨d,e,m⟩,rfl⟩:=Yv g;obtain ⟨a,sa,f,j⟩:=Row.cutFrom h d e;refine ⟨a,cells.drop (i.toNat*Ja.sz α),sa,f,λw T k=>?_,by simpa using c.drop i.toNat⟩;have:=j w T k;simpa using this
theorem Row.gL {v:Value}{ms:List (Nat×List MapEntry×Nat)}{Od b:List (List (κ×β))}{j:Int}(h:Row w v T 1 Od.length (Kd ms)) (d:me μ ms Od) (g:cut Od 0 j=some b) :
  ∃ a c,Zu v 1 none (some j) a/\a.ownBlock=v.ownBlock/\(∀ w T,Row w v T 1 Od.length (Kd ms)->Row w a T 1 b.length (Kd c))/\me μ c b/\ms.take j.toNat=c:=by
 obtain ⟨⟨m,e,f⟩,rfl⟩:=Yv g;obtain ⟨a,sa,i,k⟩:=Row.GK h e f;refine ⟨a,ms.take j.toNat,sa,i,λw T l=>?_,by simpa using d.take j.toNat,rfl⟩;have:=k w T l;have el:((Od.take j.toNat).drop (0:Int).toNat).length=j.toNat:=by simp;omega
 rw [el];have db:Kd (ms.take j.toNat)=(Kd ms).take (j.toNat*1):=by simp [Kd]
 rw [db];exact this
theorem _root_.Go.Bc.Sep.perm {S Jc:Nat->Prop}{A:World->Prop}(h:Sep S Jc da w rs A) (a:rs.Perm rs'):Sep S Jc da w rs' A where
 keeps:=h.keeps
 all r d:=h.all r (a.mem_iff.2 d)
 oi:=(a.filterMap _).nodup_iff.1 h.oi
 new b e:=h.new b ((a.filterMap _).mem_iff.2 e)
 Xi:=h.Xi.mono λk _ c=>⟨c.1,λf=>c.2 ((a.filterMap Ha.block).mem_iff.2 f)⟩
theorem _root_.Go.Bc.Sep.Zc {a p M R:List Ha}(h:fa μ da w (a++(p++(M++R)))):fa μ da w (a++(M++(p++R))):=
 h.perm (List.Perm.append_left a (by
  rw [<- List.append_assoc,<- List.append_assoc];exact List.Perm.append_right R List.perm_append_comm))
theorem _root_.Go.Bc.Sep.jy {k:Nat}{v c:Value}{sz e:Nat}{xs f:List Value}{S Jc:Nat->Prop}{A:World->Prop}(a:Sep S Jc da w rs A) (la:Zb rs k (.row v T sz n xs)) (l:c.ownBlock=v.ownBlock) (m:∀ w T,Row w v T sz n xs->Row w c T sz e f) (g:Xb rs k (.row c T sz e f) rs'):Sep S Jc da w rs' A:=by
 have h:Row w v T sz n xs:=a.get la;cases Oa:v.ownBlock with
 | some b=>exact a.put (b:=b) (r:=.row v T sz n xs) (r':=.row c T sz e f) la Oa (l.trans Oa) g (m _ _ h) (Ui.refl _)
 | none =>
  unfold Xb at g;subst g;have j:=NH (r':=.row c T sz e f) la (show c.ownBlock=v.ownBlock from l);refine ⟨a.keeps,λr o=>?_,by rw [j];exact a.oi,by rw [j];exact a.new,by rw [j];exact a.Xi⟩;obtain ⟨i,d⟩:=List.mem_iff_getElem?.1 o;rw [List.getElem?_set] at d;split at d
  ·split at d
   ·cases d;exact m _ _ h
   ·cases d
  ·exact a.all r<|List.mem_of_getElem? d
end
theorem vb {P : Program} {f : FuncId} {fn : Func} (a : P.funcs[f]? = some fn) (b : fn.body.isSome = true := by rfl) (c : (fn.name == "runtime.NumGoroutine") = false := by kernel_rfl) : fb P f := LQ a b c
theorem Oc {P : Program}{T : TypeId}{d : TypeDesc}{mc : Bool}{z : Value}{zc : List Value}{n m : Nat}(a : P.underlying T = some d) (b : tB d = mc := by rfl) (h : (P.info? T).map (λi => (i.zero, i.size, i.bytes)) = some (some z, n, m):= by kernel_rfl) (c : z.cells = ⟨zc⟩ := by rfl) : wb P T mc zc n m := yU a b h c
theorem Pj {v:Value}{l:List Value}(h:ae v=true) (k:l.all ae=true):(v::l).all ae=true:=by simp [h,k]
theorem Ct:([]:List Value).all ae=true:=rfl
theorem AM (A vs:List Value) (o q N:Nat) (d:q+vs.length<=N) (e:o+N<=A.length):((A.take (o+q)++vs++A.drop (o+q+vs.length)).drop o).take N=((A.drop o).take N).take q++vs++((A.drop o).take N).drop (q+vs.length):=by
 apply List.ext_getElem?;intro j;simp only [List.getElem?_take,List.getElem?_drop,List.getElem?_append,List.length_append,List.length_take,List.length_drop];have sa:min (o+q) A.length=o+q:=by omega
 have c:min q (min N (A.length - o))=q:=by omega
 rw [sa,c];by_cases gb:j<q
 ·have b:j<N:=by omega
  have a:j<q+vs.length:=by omega
  simp [gb,b,a,show o+j<o+q by omega,show o+j<o+q+vs.length by omega]
 ·by_cases b:j<q+vs.length
  ·rw [if_pos (by omega),if_pos (by omega),if_neg (by omega),if_pos (by omega),if_neg (by omega)];congr 1;omega
  ·by_cases a:j<N
   ·rw [if_pos a,if_neg (by omega),if_neg (by omega),if_pos (by omega)];congr 1;omega
   ·rw [if_neg a,if_neg (by omega),if_neg (by omega)]
section
variable {P:Program}{Q:Exit->Act->World->Prop}{K:List Value->List Deferred->World->Prop}{fr ya:List Value}{ds:List Deferred}{w:World}
variable {dst:Option Tmp}{ty:TypeId}{pos:String}{after:Array Edge}{g:Option (Nat×Bool)}
variable {da:World}{rs rs':List Ha}{μ J:M}
variable {T:TypeId}{d:TypeDesc}{mc:Bool}{zc:List Value}{n m:Nat}
theorem pA {x y:Operand}{b o off sz len k:Nat}{i:Int}{v d:Value}{vs xs e:List Value}{Pe:TypeId}{S Jc:Nat->Prop}{A:World->Prop}(r:wb P T mc zc n m) (s:ab fr x (.pointer (some ⟨b,o+off,none⟩))) (t:ab fr y d) (Oa:d.cells=⟨vs⟩) (u:vs.length=n) (z:vs.all ae=true)
  (f:Sep S Jc da w rs A) (la:Zb rs k (.row v Pe sz len xs)) (B:Dk v sz i b o) (V:off+vs.length<=sz) (C:xs.take (i.toNat*sz+off)++vs++xs.drop (i.toNat*sz+off+vs.length)=e) (D:Xb rs k (.row v Pe sz len e) rs')
  (Ca:zf fr dst undef ya) (h:∀ w',Sep S Jc da w' rs' A->K ya ds w'):pd P (Oper.mk dst (.store T x y) ty pos after g) fr ds w K Q:=by
 have E:Row w v Pe sz len xs:=f.get la;obtain ⟨a,vd,j,rfl,W,X,rfl⟩:=B.out;obtain ⟨F,c⟩:=E;rcases c with ⟨c,-⟩ | ⟨Y,Z,cap,cur,c,G,l,H,bb,L⟩
 ·cases c
 ·cases c;have M:i.toNat<len:=by omega
  have hmul:(i.toNat+1)*sz<=len*sz:=Nat.mul_le_mul_right _ M;have Gb:len*sz<=j*sz:=Nat.mul_le_mul_right _ l;have gc:(i.toNat+1)*sz=i.toNat*sz+sz:=Nat.succ_mul ..;have p:Ck w b Pe cur.toList:=G;have hle:(a+i.toNat*sz+off)+0+vs.length<=(⟨cur.toList⟩:Array Value).size:=by simp;omega
  have q:=run_storeCells_at P b (a+i.toNat*sz+off) Pe vs 0 ⟨cur.toList⟩ w p hle λv Oa=>oA (List.all_eq_true.1 z v Oa);have sa:d.cells.toList=vs:=by rw [Oa]
  have N:¬ (d.cells.size≠n):=by rw [Oa];simpa using u
  have O:=r.sizeOf (w:=w);simp only [Nat.add_zero] at q;have R:Ui (λk=>k≠b) w (w.setRow b (cur.toList.take (a+i.toNat*sz+off)++vs++cur.toList.drop (a+i.toNat*sz+off+vs.length)).toArray):=⟨rfl,rfl,rfl,by simp [World.setRow],λk lc U=>setRow_other w b k _ U⟩;refine sB ?_ Ca<|h _<|f.put (b:=b) la rfl rfl D ?_ R
  ·simp only [execOp,Instr.storeAt,s ds,t ds,Instr.sureAddr,storeVar,Sem.run_bind,O,Result.andThen_ok,if_neg N,sa,q,Sem.run_pure]
  ·subst C;refine ⟨by simp [F];omega,.inr ⟨b,a,j,_,rfl,setRow_heap w b ⟨cur.toList⟩ _ Pe (0,0) p,l,H,?_,?_⟩⟩
   ·simp;omega
   ·subst L;have:=AM cur.toList vs a (i.toNat*sz+off) (len*sz) (by omega) (by simp;omega);rw [<- Nat.add_assoc] at this;exact this
class LW (α β:Type) [Ja α] [Ja β] where
 code:α->List β
 set:α->List β->α
 Ca:M->List Value->α->Prop
 up:∀ {μ J:M}{l:List Value}{x:α},ha μ J->Ca μ l x->Ca J l x
 Qh:∀ {μ:M}{l:List Value}{x:α},Ca μ l x->l.length+1=Ja.sz α
 wr:∀ {μ:M}{l:List Value}{x:α}{ys:List β}{a:Option Addr}{c:Nat},Ca μ l x->za μ a c ys->Ja.cs μ (l++[.slice a ys.length c]) (set x ys)
 st:∀ {μ:M}{l:List Value}{x:α}{ys:List β},Ca μ l x->Ca μ l (set x ys)
 Tc:∀ {x:α},set x (code x)=x
 cs:∀ {x:α}{ys:List β},code (set x ys)=ys
variable {α β:Type}[Ja α] [Ja β] [LW α β]
end
end Go.Re
namespace Go.Bc
open Go.RowKit
section
variable {P:Program}{Q:Exit->Act->World->Prop}{ops:Array Oper}{fr ya:List Value}{ds:List Deferred}{w:World}
end
section
variable {P:Program}{Q:Exit->Act->World->Prop}{ops:Array Oper}{fr ya:List Value}{ds:List Deferred}{w:World}
abbrev Mon:=List Nat×(World->Prop)
def zi (i:Nat) (Va:List Mon):List Mon:=Va.filter λm=>!m.1.contains i
def qd:List Mon->World->Prop
 | [],_=>True
 | m::l,w=>m.2 w/\qd l w
theorem qd.mem {Va:List Mon}{w:World}:qd Va w ↔ ∀ m ∈ Va,m.2 w:=by
 induction Va with
 | nil=>simp [qd]
 | cons m l a=>simp [qd,a]
theorem qd.sub {Va Ns':List Mon}(h:qd Va w) (a:∀ m ∈ Ns',m ∈ Va):qd Ns' w:=qd.mem.2 λm b=>qd.mem.1 h m (a m b)
theorem IA {i:Nat}{Va:List Mon}:∀ m ∈ zi i Va,m ∈ Va:=λm a=>(List.mem_filter.1 a).1
theorem qA {i:Nat}{Va Ns':List Mon}(h:∀ m ∈ Ns',m ∈ Va):∀ m ∈ zi i Ns',m ∈ zi i Va:=λm a=>List.mem_filter.2 ⟨h m (List.mem_filter.1 a).1,(List.mem_filter.1 a).2⟩
def zh (P:Program) (ops:Array Oper) (Q:Exit->Act->World->Prop):List Mon->List Nat->Act->World->Prop
 | _,[],a,w=>Q .normal a w
 | Va,i::rest,a,w =>
  match ops[i]? with
  | none=>zh P ops Q (zi i Va) rest a w
  | some o =>
   if Region.wanted o (yielded ops a.tmps) then o.wp P a w (λa w=>qd (zi i Va) w/\zh P ops Q (zi i Va) rest a w) Q\/(o.asks P a w/\LetsOut Q)
   else zh P ops Q (zi i Va) rest (a.put o.dst undef) w
theorem oF {o:Oper}{a:Act}{K d:Act->World->Prop}(h:o.wp P a w K Q) (b:∀ a w,K a w->d a w):o.wp P a w d Q:=by
 unfold Oper.wp at h ⊢;cases g:(execOp a.eval o).run P w with
 | halt e w'=>rw [g] at h; cases e <;> exact h
 | ok r w' =>
  rw [g] at h;cases r with
  | value x=>exact b _ _ h
  | skip=>exact b _ _ h
  | defer j=>exact b _ _ h
  | enter f args =>
   rw [Oper.upon_enter] at h ⊢;refine Calls.mono h λe i c=>?_;cases e with
   | returned x=>exact b _ _ c
   | panicked k=>exact c
   | outgrown=>exact c
  | row r args =>
   rw [Oper.upon_row] at h ⊢;exact Rows.mono h λx i c=>b _ _ c
  | _=>exact h
theorem zh.mono:∀ (b:List Nat){Va Ns':List Mon}{a:Act}{w:World},zh P ops Q Va b a w->(∀ m ∈ Ns',m ∈ Va)->zh P ops Q Ns' b a w
 | [],_,_,_,_,h,_=>h
 | i::b,Va,Ns',a,w,h,c=>by
  simp only [zh] at h ⊢;cases e:ops[i]? with
  | none=>rw [e] at h; exact zh.mono b h<|qA c
  | some o =>
   rw [e] at h;simp only at h ⊢;split
   ·rename_i d;rw [if_pos d] at h;rcases h with h | h
    ·exact .inl<|oF h λa w ⟨f,g⟩=>⟨f.sub<|qA c,zh.mono b g<|qA c⟩
    ·exact .inr h
   ·rename_i d;rw [if_neg d] at h;exact zh.mono b h<|qA c
theorem zh.plain:∀ (b:List Nat){Va:List Mon}{a:Act}{w:World},zh P ops Q Va b a w->wpOps P ops Q b a w
 | [],_,_,_,h=>h
 | i::b,Va,a,w,h=>by
  simp only [zh] at h;simp only [wpOps];cases d:ops[i]? with
  | none=>rw [d] at h; exact zh.plain b h
  | some o =>
   rw [d] at h;simp only at h ⊢;split
   ·rename_i c;rw [if_pos c] at h;rcases h with h | h
    ·exact .inl<|oF h λa w ⟨_,e⟩=>zh.plain b e
    ·exact .inr h
   ·rename_i c;rw [if_neg c] at h;exact zh.plain b h
theorem pG {N:World->Prop}{S:List Nat}{i d:Nat}(s:gl Q d){o:Oper}{v:Value}(A:ops[i]?=some o) (Ca:o.dst=some d){wt:Bool}(B:wt=false->v=undef) :
  ∀ (b c:List Nat) (fr:List Value) (ds:List Deferred) (w:World) (Va:List Mon),
   (∀ j ∈ b,j ∉ S/\match ops[j]? with
    | some p=>lr p.op=true/\(reads ops p).contains d=false/\p.dst≠some d/\(∀ e,p.dst=some e->(reads ops o).contains e=false)
    | none=>True) ->
   N w->qd Va w->lr o.op=true->Region.wanted o (yielded ops (F fr ds).tmps)=wt ->
   (wt=true->∀ ds w,N w->(execOp (F fr ds).eval o).run P w=.ok (.value v) w) ->
   zh P ops Q ((S,N)::Va) (b++c) (F (fr.set d v) ds) w->zh P ops Q Va (b++i::c) (F fr ds) w
 | [],c,fr,ds,w,Va,_,hw,t,u,l,z,h=>by
  simp only [List.nil_append] at h ⊢;have h:=zh.mono c h (Ns':=zi i Va) λm V=>List.mem_cons_of_mem _ (IA m V);simp only [zh,A];cases wt with
  | true =>
   rw [if_pos l];left;unfold Oper.wp;rw [z rfl ds w hw,Oper.upon_value,Ca];rw [show (F fr ds).put (some d) v=F (fr.set d v) ds from wa rfl ds];exact ⟨t.sub IA,h⟩
  | false =>
   rw [if_neg (by rw [l];simp),Ca,<- B rfl];rw [show (F fr ds).put (some d) v=F (fr.set d v) ds from wa rfl ds];exact h
 | j::b,c,fr,ds,w,Va,K,hw,t,u,l,z,h=>by
  obtain ⟨W,C⟩:=K j (by simp);have L:∀ k ∈ b,_:=λk n=>K k (by simp [n]);have X:zi j ((S,N)::Va)=(S,N)::zi j Va:=by simp [zi,W]
  simp only [List.cons_append,zh,X] at h ⊢;cases M:ops[j]? with
  | none =>
   rw [M] at h;simp only at h ⊢;exact pG s A Ca B b c fr ds w _ L hw (t.sub IA) u l z h
  | some p =>
   rw [M] at h C;simp only at h C ⊢;obtain ⟨O,D,Y,R⟩:=C;rw [dN (fr:=fr) (v:=v) (ds:=ds) (ds':=ds) D] at h;have key:∀ (x:Value) (w':World) (ds':List Deferred),N w'->qd (zi j Va) w'->zh P ops Q ((S,N)::zi j Va) (b++c) ((F (fr.set d v) ds').put p.dst x) w'->zh P ops Q (zi j Va) (b++i::c) ((F fr ds').put p.dst x) w':=by
    intro x w' ds' Z bb n;obtain ⟨g,g1,g2,g3⟩:=put_eq fr ds' p.dst x;have Gb:=wanted_put (ops:=ops) (o:=o) (p:=p) (ds':=ds') (λy E=>g3 fr y ds' ds' E) R;rw [g1] at n ⊢;rw [g2 _ _ _ Y] at n;refine pG s A Ca B b c (g fr) ds' w' _ L Z bb u (Gb.trans l) (λgc q lc rc=>?_) n;rw [show execOp (F (g fr) q).eval o=execOp (F fr q).eval o from execOp_congr o u λy E=>g3 fr y q q λe a fd=>by
     exact LI (R e a) y E fd]
    exact z gc q lc rc
   by_cases T:Region.wanted p (yielded ops (F fr ds).tmps)=true
   ·rw [if_pos T] at h ⊢;rcases h with h | h
    ·left;unfold Oper.wp at h ⊢;rw [MI (ds':=ds) O D] at h;cases U:(execOp (F fr ds).eval p).run P w with
     | halt e w' =>
      rw [U] at h;cases e<;>first | exact h | exact s _ _ _ _ _ h
     | ok r w' =>
      rw [U] at h;cases r with
      | value x=>exact ⟨h.1.2,key x w' ds h.1.1 h.1.2 h.2⟩
      | skip=>exact ⟨h.1.2,key undef w' ds h.1.1 h.1.2 h.2⟩
      | defer id=>exact ⟨h.1.2,key undef w' (id::ds) h.1.1 h.1.2 h.2⟩
      | enter f args =>
       rw [Oper.upon_enter] at h ⊢;refine Calls.mono h λe G a=>?_;cases e with
       | returned x=>exact ⟨a.1.2,key x G ds a.1.1 a.1.2 a.2⟩
       | panicked md=>exact s _ _ _ _ _ a
       | outgrown=>exact a
      | row r args =>
       rw [Oper.upon_row] at h ⊢;exact Rows.mono h λx G a=>⟨a.1.2,key x G ds a.1.1 a.1.2 a.2⟩
      | _=>exact h
    ·right;refine ⟨?_,h.2⟩;have H:=h.1;unfold Oper.asks at H ⊢;rw [MI (ds':=ds) O D] at H;exact H
   ·rw [if_neg T] at h ⊢;exact key undef w ds hw (t.sub IA) h
structure Ud (P:Program) (ops:Array Oper) (Q:Exit->Act->World->Prop) (Va:List Mon) (R:List Nat) (fr:List Value) (ds:List Deferred) (w:World):Prop where
 out:qd Va w->∀ a,Tl ops R a->zh P ops Q Va a (F fr ds) w
theorem rA {R:List Nat}(h:Ud P ops Q [] R fr ds w):WG P ops Q R fr ds w:=⟨λa b=>zh.plain a (h.out trivial a b)⟩
theorem fy {Va:List Mon}(h:Q .normal (F fr ds) w):Ud P ops Q Va [] fr ds w:=⟨λ_ b a=>by
 cases a with
 | z=>exact h
 | s h _=>exact absurd (Cv h) (by simp)⟩
def en (ops:Array Oper) (S R:List Nat) (i:Nat):Bool :=
 match ops[i]? with
 | some o=>match o.dst with
  | some d=>lr o.op && R.all λj=>S.contains j || (match ops[j]? with
    | some p=>lr p.op && !(reads ops p).contains d && p.dst != some d && (match p.dst with | some e=>!(reads ops o).contains e | none=>true)
    | none=>true)
  | _=>false
 | none=>false
theorem Ox {Va:List Mon}{R R':List Nat}{i:Nat}(S:List Nat) (N:World->Prop){wt:Bool}{dst:Tmp}{op:Op}{ty:TypeId}{pos:String}{after:Array Edge}{l:Option (Nat×Bool)}{v:Value}(C:gl Q dst) (m:(decide R.Nodup && enabled ops R i && waits ops R S i && en ops S R i && S.contains i)=true) (D:R.erase i=R') (n:ops[i]?=some ⟨some dst,op,ty,pos,after,l⟩)
  (E:Region.wanted ⟨some dst,op,ty,pos,after,l⟩ (yielded ops (F fr ds).tmps)=wt) (G:wt=false->v=undef) (o:N w)
  (Oa:wt=true->∀ ds w',N w'->(execOp (F fr ds).eval ⟨some dst,op,ty,pos,after,l⟩).run P w'=.ok (.value v) w') (f:Xb fr dst v ya) (h:Ud P ops Q ((S,N)::Va) R' ya ds w):Ud P ops Q Va R fr ds w:=⟨λq W r=>by
 simp only [Bool.and_eq_true,decide_eq_true_eq] at m;obtain ⟨⟨⟨⟨s,t⟩,u⟩,g⟩,-⟩:=m;obtain ⟨x,y,rfl,H,z⟩:=r.split s (Cv t) t;have A:=Tl.later (S:=S) r s (λj d=>by
  unfold waits at u;have:=List.all_eq_true.1 u j d;simp only [Bool.or_eq_true,beq_iff_eq,List.any_eq_true,Bool.and_eq_true,List.contains_iff_mem] at this;rcases this with h | ⟨k,k1,K,L⟩
  ·exact .inl h
  ·exact .inr ⟨k,k1,K,L⟩) x y rfl (λM=>(z i M).2.1 rfl)
 unfold en at g;simp only [n,Bool.and_eq_true,List.all_eq_true,Bool.or_eq_true,List.contains_iff_mem] at g;unfold Xb at f;subst f;subst D;refine pG C n rfl G (N:=N) (S:=S) (v:=v) x y fr ds w Va (λj d=>⟨A j d,?_⟩) o q g.1 E Oa<|h.out ⟨o,q⟩ _ H;obtain ⟨a,b,c⟩:=z j d;have:=g.2 j a;rcases this with h | h
 ·exact absurd h<|A j d
 ·cases f:ops[j]? with
  | none=>trivial
  | some p =>
   rw [f] at h;simp only [Bool.and_eq_true,Bool.not_eq_true',bne_iff_ne,ne_eq] at h;obtain ⟨⟨⟨O,T⟩,U⟩,B⟩:=h;refine ⟨O,T,U,λe V=>?_⟩;rw [V] at B;simpa using B⟩
theorem bk {Va:List Mon}{R R':List Nat}{i:Nat}(S:List Nat){dst:Tmp}{op:Op}{ty:TypeId}{pos:String}{after:Array Edge}{v:Value}(a:gl Q dst) (b:(decide R.Nodup && enabled ops R i && waits ops R S i && en ops S R i && S.contains i)=true) (c:R.erase i=R') (d:ops[i]?=some ⟨some dst,op,ty,pos,after,none⟩)
  (Oa:lk P ⟨some dst,op,ty,pos,after,none⟩ fr w v) (e:Xb fr dst v ya) (h:Ud P ops Q ((S,λw'=>lk P ⟨some dst,op,ty,pos,after,none⟩ fr w' v)::Va) R' ya ds w):Ud P ops Q Va R fr ds w :=
 Ox S _ (wt:=true) a b c d (hj rfl) (λh=>by cases h) Oa (λ_ ds w' f=>f.out ds) e h
theorem WJ {Va:List Mon}{R R':List Nat}{i j d:Nat}{b:Bool}(S:List Nat){dst:Tmp}{op:Op}{ty:TypeId}{pos:String}{after:Array Edge}{v:Value}(a:gl Q dst) (c:(decide R.Nodup && enabled ops R i && waits ops R S i && en ops S R i && S.contains i)=true) (e:R.erase i=R') (f:ops[i]?=some ⟨some dst,op,ty,pos,after,some (j,b)⟩) (g:(ops[j]?).bind (·.dst)=some d) (la:Zb fr d (.bool b))
  (Oa:lk P ⟨some dst,op,ty,pos,after,some (j,b)⟩ fr w v) (k:Xb fr dst v ya) (h:Ud P ops Q ((S,λw'=>lk P ⟨some dst,op,ty,pos,after,some (j,b)⟩ fr w' v)::Va) R' ya ds w):Ud P ops Q Va R fr ds w :=
 Ox S _ (wt:=true) a c e f (cr rfl g la) (λh=>by cases h) Oa (λ_ ds w' l=>l.out ds) k h
theorem zh.add {m:Mon}(d:∀ w,m.2 w):∀ (b:List Nat){Va:List Mon}{a:Act}{w:World},zh P ops Q Va b a w->zh P ops Q (m::Va) b a w
 | [],_,_,_,h=>h
 | i::b,Va,a,w,h=>by
  have f:zi i (m::Va)=m::zi i Va\/zi i (m::Va)=zi i Va:=by
   unfold zi;rw [List.filter_cons];split
   ·exact .inl rfl
   ·exact .inr rfl
  have key:∀ {a w},zh P ops Q (zi i Va) b a w->zh P ops Q (zi i (m::Va)) b a w:=λh=>by
   rcases f with e | e<;>rw [e]
   ·exact zh.add d b h
   ·exact h
  have j:∀ {w},qd (zi i Va) w->qd (zi i (m::Va)) w:=λh=>by
   rcases f with e | e<;>rw [e]
   ·exact ⟨d _,h⟩
   ·exact h
  simp only [zh] at h ⊢;cases g:ops[i]? with
  | none=>rw [g] at h; exact key h
  | some o =>
   rw [g] at h;simp only at h ⊢;split
   ·rename_i c;rw [if_pos c] at h;rcases h with h | h
    ·exact .inl<|oF h λa w ⟨k,l⟩=>⟨j k,key l⟩
    ·exact .inr h
   ·rename_i c;rw [if_neg c] at h;exact key h
theorem pF {Va:List Mon}{m:Mon}{R:List Nat}(b:∀ w,m.2 w) (h:Ud P ops Q Va R fr ds w):Ud P ops Q (m::Va) R fr ds w:=⟨λc a d=>zh.add b a (h.out c.2 a d)⟩
theorem gg {Va:List Mon}{R R':List Nat}{i:Nat}(S:List Nat){dst:Tmp}{op:Op}{ty:TypeId}{pos:String}{after:Array Edge}{v:Value}(a:gl Q dst) (b:(decide R.Nodup && enabled ops R i && waits ops R S i && en ops S R i && S.contains i)=true) (c:R.erase i=R') (d:ops[i]?=some ⟨some dst,op,ty,pos,after,none⟩)
  (Oa:Af P ⟨some dst,op,ty,pos,after,none⟩ fr v) (e:Xb fr dst v ya) (h:Ud P ops Q Va R' ya ds w):Ud P ops Q Va R fr ds w :=
 Ox S (λ_=>True) (wt:=true) a b c d (hj rfl) (λh=>by cases h) trivial (λ_ ds w' _=>Oa.out ds w') e (pF (λ_=>trivial) h)
theorem XJ {Va:List Mon}{R R':List Nat}{i j d:Nat}{b:Bool}(S:List Nat){dst:Tmp}{op:Op}{ty:TypeId}{pos:String}{after:Array Edge}{v:Value}(a:gl Q dst) (c:(decide R.Nodup && enabled ops R i && waits ops R S i && en ops S R i && S.contains i)=true) (e:R.erase i=R') (f:ops[i]?=some ⟨some dst,op,ty,pos,after,some (j,b)⟩) (g:(ops[j]?).bind (·.dst)=some d) (la:Zb fr d (.bool b))
  (Oa:Af P ⟨some dst,op,ty,pos,after,some (j,b)⟩ fr v) (k:Xb fr dst v ya) (h:Ud P ops Q Va R' ya ds w):Ud P ops Q Va R fr ds w :=
 Ox S (λ_=>True) (wt:=true) a c e f (cr rfl g la) (λh=>by cases h) trivial (λ_ ds w' _=>Oa.out ds w') k (pF (λ_=>trivial) h)
theorem zS {Va:List Mon}{R R':List Nat}{i j d:Nat}{b Rc:Bool}(S:List Nat){dst:Tmp}{op:Op}{ty:TypeId}{pos:String}{after:Array Edge}(a:gl Q dst) (c:(decide R.Nodup && enabled ops R i && waits ops R S i && en ops S R i && S.contains i)=true) (e:R.erase i=R') (f:ops[i]?=some ⟨some dst,op,ty,pos,after,some (j,b)⟩) (g:(ops[j]?).bind (·.dst)=some d) (la:Zb fr d (.bool Rc)) (k:(Rc == b)=false)
  (l:Xb fr dst undef ya) (h:Ud P ops Q Va R' ya ds w):Ud P ops Q Va R fr ds w :=
 Ox S (λ_=>True) (wt:=false) a c e f ((PI rfl g la).trans k) (λ_=>rfl) trivial (λh=>by cases h) l (pF (λ_=>trivial) h)
structure bu (P:Program) (ops:Array Oper) (Q:Exit->Act->World->Prop) (Va:List Mon) (R:List Nat) (fr:List Value) (ds:List Deferred) (w:World):Prop where
 m:qd Va w
 s:Ud P ops Q Va R fr ds w
theorem qd.s {m:Mon}{l:List Mon}(h:m.2 w) (k:qd l w):qd (m::l) w:=⟨h,k⟩
theorem qd.z:qd [] w:=trivial
theorem YJ {Va:List Mon}{R:List Nat}(c:R≠[]) (h:∀ i ∈ eB ops R,∃ o,ops[i]?=some o/\Region.wanted o (yielded ops (F fr ds).tmps)=true/\pd P o fr ds w (bu P ops Q (zi i Va) (R.erase i)) Q):Ud P ops Q Va R fr ds w:=⟨λk d e=>by
 cases e with
 | z=>exact absurd rfl c
 | @s _ d i b f =>
  obtain ⟨o,g,hw,j⟩:=h i (List.mem_filter.2 ⟨Cv b,b⟩);simp only [zh,g];rw [if_pos hw];exact .inl (j.out _ λya ds' w' a=>⟨a.m,a.s.out a.m _ f⟩)⟩
theorem tj {Va Ns':List Mon}{R:List Nat}{i:Nat}{R':List Nat}{o:Oper}(b:eB ops R=[i]) (c:R.erase i=R') (Ca:zi i Va=Ns') (d:ops[i]?=some o) (f:Region.wanted o (yielded ops (F fr ds).tmps)=true)
  (h:pd P o fr ds w (bu P ops Q Ns' R') Q):Ud P ops Q Va R fr ds w :=
 YJ (by intro e;subst e;cases b) λk a=>by
  rw [b] at a;simp at a;subst a;exact ⟨_,d,f,by rw [c,Ca];exact h⟩
theorem IG {Va d f:List Mon}{R:List Nat}{i j:Nat}{g h:List Nat}{a b:Oper}(l:eB ops R=[i,j]) (m:R.erase i=g) (n:R.erase j=h) (o:zi i Va=d) (p:zi j Va=f) (q:ops[i]?=some a) (r:ops[j]?=some b) (s:Region.wanted a (yielded ops (F fr ds).tmps)=true) (t:Region.wanted b (yielded ops (F fr ds).tmps)=true)
  (u:pd P a fr ds w (bu P ops Q d g) Q) (v:pd P b fr ds w (bu P ops Q f h) Q):Ud P ops Q Va R fr ds w :=
 YJ (by intro e;subst e;cases l) λk c=>by
  rw [l] at c;simp at c;rcases c with rfl | rfl
  ·exact ⟨_,q,s,by rw [m,o];exact u⟩
  ·exact ⟨_,r,t,by rw [n,p];exact v⟩
theorem CL {Va:List Mon}{R:List Nat}{xi yi:List Value}{d:Nat}{b:Bool}(la:Zb fr d (.bool b)) (a:Xb fr d (.bool true) xi) (c:Xb fr d (.bool false) yi)
  (e:b=true->Ud P ops Q Va R xi ds w) (f:¬ b=true->Ud P ops Q Va R yi ds w):Ud P ops Q Va R fr ds w:=by
 cases b with
 | true=>have:=e rfl; rw [Xb.same la a] at this; exact this
 | false=>have:=f (by simp); rw [Xb.same la c] at this; exact this
theorem ur {Va:List Mon}{R:List Nat}{xi yi:List Value}{d:Nat}{p:Prop}[Decidable p] (la:Zb fr d (.bool (decide p))) (a:Xb fr d (.bool true) xi) (b:Xb fr d (.bool false) yi)
  (c:p->Ud P ops Q Va R xi ds w) (e:¬ p->Ud P ops Q Va R yi ds w):Ud P ops Q Va R fr ds w :=
 CL la a b (λh=>c (of_decide_eq_true h)) (λh=>e λf=>h (decide_eq_true f))
end
end Go.Bc
namespace Go.Re
open Go.Bc Go.RowKit
section
variable {P:Program}{Q:Exit->Act->World->Prop}{K:List Value->List Deferred->World->Prop}{fr ya:List Value}{ds:List Deferred}{w:World}
variable {dst:Option Tmp}{ty:TypeId}{pos:String}{after:Array Edge}{g:Option (Nat×Bool)}
variable {da:World}{rs rs':List Ha}{μ J:M}
variable {T:TypeId}{d:TypeDesc}{mc:Bool}{zc:List Value}{n m:Nat}
theorem AS {e:TypeId}{S Jc:Nat->Prop}{A:World->Prop}(c:P.underlying T=some (.slice e)) (a:wb P e mc zc n m) (d:Sep S Jc da w rs A)
  (h:∀ b w',w.heap.size<=b->Sep S Jc da w' (.ea b e []::rs) A->Hg fr dst (.slice (some ⟨b,0,none⟩) 0 0) λya=>K ya ds w'):pd P (Oper.mk dst (.buildSlice T 0 ⟨[]⟩) ty pos after g) fr ds w K Q:=by
 obtain ⟨ya,Ca⟩:=Fi fr dst (.slice (some ⟨w.heap.size,0,none⟩) 0 0);refine Fh (v:=.slice (some ⟨w.heap.size,0,none⟩) 0 0) (w':=w.alloc (.cells ⟨[]⟩ e)) ?_ Ca<|h _ _ (Nat.le_refl _) (d.alloc rfl<|heap_alloc_new w _) ya Ca;have f:=a.sizeOf (w:=w);obtain ⟨z,i,j⟩:=a.zero (w:=w);simp [execOp,Instr.buildSlice,Sem.run_bind,run_underlying c,Result.andThen_ok,f,newRow,Instr.fill];have lb:Array.range 0=#[]:=Array.eq_empty_of_size_eq_zero (by simp);rw [lb,Array.map_empty]
theorem eH {t ty:TypeId}{sz bytes:Nat}(b:P.underlying t=some (.slice T)) (e:wb P T mc zc sz bytes){v:Value}{xs:List Value}(f:Row w v T sz n xs){a:Option Addr}{c:Nat} :
  (Builtin.append_ #[t,t] ty #[v,.slice a 0 c]).run P w=.ok v w:=by
 have d:=e.sizeOf (w:=w);rcases f.2 with ⟨rfl,rfl⟩ | ⟨g,o,cap,cur,rfl,i,h,j,k,l⟩
 ·cases a<;>simp [Builtin.append_,run_underlying b,d,Builtin.lenOf,Builtin.firstCells,loadCells,loadCellsFrom]
 ·cases a<;>simp [Builtin.append_,run_underlying b,d,Builtin.lenOf,Builtin.firstCells,h,storeCells,loadCells,loadCellsFrom]
theorem QA {α:Type}[Ja α]{t:TypeId}{s x:Operand}{v:Value}{bytes k c:Nat}{a:Option Addr}{cells news:List Value}{l ys Aa:List α}(j:P.underlying t=some (.slice T)) (m:wb P T mc zc (Ja.sz α) bytes) (u:zc.length=Ja.sz α)
  (n:ab fr s v) (p:ab fr x (.slice a ys.length c)) (f:fa μ da w rs) (la:Zb rs k (.row v T (Ja.sz α) l.length cells)) (y:ys≠[]->∃ b o,a=some ⟨b,o,none⟩/\xa μ b o news) (d:qa μ news ys) (z:app l ys=some Aa) (A:bytes<=4096)
  (h:∀ i w' rs',Xb rs k (.row i T (Ja.sz α) Aa.length (cells++news)) rs'->fa μ da w' rs'->Hg fr dst i λya=>K ya ds w') :
  pd P (Oper.mk dst (.call { callee:=.builtin .append,args:=#[s,x],argTypes:=#[t,t] }) ty pos after g) fr ds w K Q:=by
 obtain ⟨q,B⟩:=GA z;by_cases r:ys=[]
 ·subst r;obtain rfl:news=[]:=d;have C:Row w v T (Ja.sz α) l.length cells:=f.get la;obtain ⟨ya,Ca⟩:=Fi fr dst v;have D:=h v w rs (by
   have:Aa.length=l.length:=by simpa using q
   rw [this,List.append_nil];unfold Xb;obtain ⟨E,e⟩:=List.getElem?_eq_some_iff.1 (show rs[k]?=_ from la);rw [<- e];exact List.set_getElem_self E) f
  refine Fh (v:=v) (w':=w) ?_ Ca<|D ya Ca;have sa:=n ds;have F:=p ds;have d:=eH (P:=P) (ty:=ty) (a:=a) (c:=c) j m C;simp [execOp,resolve,invoke,builtin,sa,F,d]
 ·obtain ⟨b,o,rfl,G⟩:=y r;exact su j m (by simp [u,Ja.pos]) n p f la (G _ f.a) d.len d.fg ⟨B,A⟩ λi w' rs' H=>h i w' rs' (by rw [q];exact H)
end
end Go.Re
