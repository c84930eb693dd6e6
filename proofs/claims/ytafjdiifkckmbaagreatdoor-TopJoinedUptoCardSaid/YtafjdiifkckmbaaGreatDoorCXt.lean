/- Texts of Xt. -/
import Derived.Test.YtafjdiifkckmbaaGreatDoorCWk
import Derived.LoopN
import Derived.KernelRfl
set_option linter.unusedSimpArgs false
set_option linter.unusedVariables false
set_option linter.unusedSectionVars false
namespace Go.Kf
open Go.Mc Go.RowKit
abbrev M:=World->Prop
def ha (μ J:M):Prop:=∀ w,J w->μ w
theorem ha.r {μ:M}:ha μ μ:=λ_ h=>h
theorem ha.t {a b c:M}(h:ha a b) (k:ha b c):ha a c:=λw x=>h w (k w x)
abbrev fa (μ:M) (da w:World) (rs:List Ha):Prop:=Sep (λ_=>False) (λ_=>True) da w rs μ
def xa (μ:M) (b o:Nat) (cs:List Value):Prop:=∀ w,μ w->lj w b o cs
theorem xa.up {μ J:M}{b o:Nat}{cs:List Value}(h:xa μ b o cs) (l:ha μ J):xa J b o cs:=λw k=>h w (l w k)
class Ma (α:Type) where
 sz:Nat
 pos:0<sz
 cs:M->List Value->α->Prop
 Uh:∀ {μ:M}{l:List Value}{x:α},cs μ l x->l.length=sz
 up:∀ {μ J:M}{l:List Value}{x:α},ha μ J->cs μ l x->cs J l x
 pg:∀ {μ:M}{l:List Value}{x:α},cs μ l x->l.all ee=true
structure Ub {α:Type}(sz:Nat) (R:List Value->α->Prop) (μ:M) (a:Option Addr) (c:Nat) (xs:List α):Prop where
 le:xs.length<=c
 cap:c<=maxLen
 el:xs=[]\/∃ b o,a=some ⟨b,o,none⟩/\∃ g:Nat->List Value,∀ i x,xs[i]?=some x->xa μ b (o+i*sz) (g i)/\R (g i) x
abbrev ya {α:Type}[Ma α] (μ:M) (a:Option Addr) (c:Nat) (xs:List α):Prop:=Ub (Ma.sz α) (Ma.cs μ) μ a c xs
theorem Ub.imp {α:Type}{sz:Nat}{R R':List Value->α->Prop}{μ J:M}{a:Option Addr}{c:Nat}{xs:List α}(h:Ub sz R μ a c xs) (l:ha μ J) (f:∀ (i:Nat) (cs:List Value) (x:α),xs[i]?=some x->R cs x->R' cs x):Ub sz R' J a c xs where
 le:=h.le
 cap:=h.cap
 el:=by
  rcases h.el with h | ⟨b,o,j,g,e⟩
  ·exact .inl h
  ·exact .inr ⟨b,o,j,g,λi x d=>⟨(e i x d).1.up l,f i _ x d (e i x d).2⟩⟩
theorem ya.up {α:Type}[Ma α]{μ J:M}{a:Option Addr}{c:Nat}{xs:List α}(h:ya μ a c xs) (l:ha μ J):ya J a c xs:=Ub.imp h l λ_ _ _ _=>Ma.up l
theorem ya.nil {α:Type}[Ma α]{μ:M}{a:Option Addr}:ya (α:=α) μ a 0 []:=⟨by simp,by simp,.inl rfl⟩
theorem ya.len {α:Type}{sz:Nat}{R:List Value->α->Prop}{μ:M}{a:Option Addr}{c:Nat}{xs:List α}(h:Ub sz R μ a c xs):xs.length<=9223372036854775807:=Nat.le_trans h.le h.cap
instance:Ma Int where
 sz:=1
 pos:=by decide
 cs _ l x:=l=[.int .i64 x]
 Uh h:=by rw [h];rfl
 up _ h:=h
 pg h:=by rw [h];rfl
instance:Ma Bool where
 sz:=1
 pos:=by decide
 cs _ l x:=l=[.bool x]
 Uh h:=by rw [h];rfl
 up _ h:=h
 pg h:=by rw [h];rfl
instance {α:Type}[Ma α]:Ma (List α) where
 sz:=1
 pos:=by decide
 cs μ l xs:=∃ a c,l=[.slice a xs.length c]/\ya μ a c xs
 Uh h:=by obtain ⟨a,c,rfl,-⟩:=h;rfl
 up l h:=by obtain ⟨a,c,b,d⟩:=h;exact ⟨a,c,b,d.up l⟩
 pg h:=by obtain ⟨a,c,rfl,-⟩:=h;rfl
instance:Ma (List UInt8) where
 sz:=1
 pos:=by decide
 cs _ l x:=l=[S x]
 Uh h:=by rw [h];rfl
 up _ h:=h
 pg h:=by rw [h];rfl
def i64 (n:Int):Option Int:=if -9223372036854775808<=n/\n<=9223372036854775807 then some n else none
def km (n:Int):Int:=IntKind.i64.wrap n
def at_ {α:Type}(l:List α) (i:Int):Option α:=if 0<=i then l[i.toNat]? else none
def cut {α:Type}(l:List α) (i j:Int):Option (List α):=if 0<=i/\i<=j/\j<=l.length then some ((l.take j.toNat).drop i.toNat) else none
def cat (a b:List UInt8):Option (List UInt8):=if a.length+b.length<=9223372036854775807 then some (a++b) else none
def app {α:Type}(l:List α) (xs:List α):Option (List α):=if l.length+xs.length<=4294967296 then some (l++xs) else none
def quo (a b:Int):Option Int:=if b=0 then none else some (km (a.tdiv b))
theorem td {α β:Type}{o:Option α}{f:α->Option β}{r:β}(h:Option.bind o f=some r):∃ x,o=some x/\f x=some r:=Option.bind_eq_some_iff.1 h
theorem Uf {α:Type}{c:Prop}[Decidable c]{x y:α}{r:α}(a:c) (h:(if c then x else y)=r):x=r:=by rwa [if_pos a] at h
theorem Fb {α:Type}{c:Prop}[Decidable c]{x y:α}{r:α}(a:¬ c) (h:(if c then x else y)=r):y=r:=by rwa [if_neg a] at h
theorem DS {n x:Int}(h:i64 n=some x):x=n/\-9223372036854775808<=n/\n<=9223372036854775807:=by
 unfold i64 at h;split at h
 ·rename_i a;exact ⟨(Option.some.inj h).symm,a⟩
 ·cases h
theorem UI {n x:Int}(h:i64 n=some x):IntKind.i64.wrap n=x:=by
 obtain ⟨rfl,a,b⟩:=DS h;exact wr (by omega)
theorem Wu {α:Type}{l:List α}{i:Int}{x:α}(h:at_ l i=some x):0<=i/\i<l.length/\l[i.toNat]?=some x:=by
 unfold at_ at h;split at h
 ·rename_i a;refine ⟨a,?_,h⟩;have:=(List.getElem?_eq_some_iff.1 h).1;omega
 ·cases h
theorem nw {α:Type}{l ys:List α}{i j:Int}(h:cut l i j=some ys):(0<=i/\i<=j/\j<=l.length)/\ys=(l.take j.toNat).drop i.toNat:=by
 unfold cut at h;split at h
 ·rename_i a;exact ⟨a,(Option.some.inj h).symm⟩
 ·cases h
theorem ES {a b c:List UInt8}(h:cat a b=some c):c=a++b/\a.length+b.length<=9223372036854775807:=by
 unfold cat at h;split at h
 ·rename_i d;exact ⟨(Option.some.inj h).symm,d⟩
 ·cases h
theorem ow {α:Type}{a b c:List α}(h:app a b=some c):c=a++b/\a.length+b.length<=4294967296:=by
 unfold app at h;split at h
 ·rename_i d;exact ⟨(Option.some.inj h).symm,d⟩
 ·cases h
structure Bk (v:Value) (sz:Nat) (i:Int) (b o:Nat):Prop where
 out:∃ a n c,v=.slice (some ⟨b,a,none⟩) n c/\0<=i/\i<n/\a+i.toNat*sz=o
theorem Ub.elem {α:Type}{sz:Nat}{R:List Value->α->Prop}{μ:M}{a:Option Addr}{c:Nat}{xs:List α}{i:Int}{x:α}(h:Ub sz R μ a c xs) (g:at_ xs i=some x) :
  ∃ b o cs,Bk (.slice a xs.length c) sz i b o/\xa μ b o cs/\R cs x:=by
 obtain ⟨j,k,d⟩:=Wu g;rcases h.el with rfl | ⟨b,o,rfl,f,e⟩
 ·simp at d
 ·exact ⟨b,_,f i.toNat,⟨o,_,_,rfl,j,k,rfl⟩,(e _ _ d).1,(e _ _ d).2⟩
def qa {α:Type}[Ma α] (μ:M):List Value->List α->Prop
 | cells,[]=>cells=[]
 | cells,x::l=>∃ cs t,cells=cs++t/\Ma.cs μ cs x/\qa μ t l
theorem qa.len {α:Type}[Ma α]{μ:M}:∀ {l:List α}{cells:List Value},qa μ cells l->cells.length=l.length*Ma.sz α
 | [],cells,h=>by rw [qa] at h; simp [h]
 | x::l,cells,h=>by
  rw [qa] at h;obtain ⟨cs,t,rfl,a,b⟩:=h;simp [qa.len b,Ma.Uh a,Nat.add_mul,Nat.add_comm]
theorem qa.up {α:Type}[Ma α]{μ J:M}(ma:ha μ J):∀ {l:List α}{cells:List Value},qa μ cells l->qa J cells l
 | [],cells,h=>by rw [qa] at h ⊢; exact h
 | x::l,cells,h=>by
  rw [qa] at h ⊢;obtain ⟨cs,t,a,b,c⟩:=h;exact ⟨cs,t,a,Ma.up ma b,qa.up ma c⟩
theorem qa.cat {α:Type}[Ma α]{μ:M}{Ba:List α}{a:List Value}(k:qa μ a Ba):∀ {l:List α}{cells:List Value},qa μ cells l->qa μ (cells++a) (l++Ba)
 | [],cells,h=>by rw [qa] at h; subst h; exact k
 | x::l,cells,h=>by
  rw [qa] at h;obtain ⟨cs,t,rfl,b,c⟩:=h;rw [List.cons_append,qa];exact ⟨cs,t++a,by simp,b,qa.cat k c⟩
theorem qa.nil {α:Type}[Ma α]{μ:M}:qa μ [] ([]:List α):=rfl
theorem qa.one {α:Type}[Ma α]{μ:M}{cs:List Value}{x:α}(h:Ma.cs μ cs x):qa μ cs [x]:=⟨cs,[],by simp,h,rfl⟩
theorem qa.cons {α:Type}[Ma α]{μ:M}{cs t:List Value}{x:α}{l:List α}(h:Ma.cs μ cs x) (k:qa μ t l):qa μ (cs++t) (x::l):=⟨cs,t,rfl,h,k⟩
theorem qa.pg {α:Type}[Ma α]{μ:M}:∀ {l:List α}{cells:List Value},qa μ cells l->cells.all ee=true
 | [],cells,h=>by rw [qa] at h; simp [h]
 | x::l,cells,h=>by
  rw [qa] at h;obtain ⟨cs,t,rfl,a,b⟩:=h;rw [List.all_append,Ma.pg a,qa.pg b];rfl
theorem qa.get {α:Type}[Ma α]{μ:M}:∀ {l:List α}{cells:List Value}{i:Nat}{x:α},qa μ cells l->l[i]?=some x->Ma.cs μ ((cells.drop (i*Ma.sz α)).take (Ma.sz α)) x
 | [],cells,i,x,h,a=>by simp at a
 | y::l,cells,i,x,h,a=>by
  rw [qa] at h;obtain ⟨cs,t,rfl,b,c⟩:=h;cases i with
  | zero=>simp at a; subst a; simp [<- Ma.Uh b]; exact b
  | succ i =>
   simp at a;have:=qa.get c a;have e:(i+1)*Ma.sz α=cs.length+i*Ma.sz α:=by rw [Nat.add_mul,Ma.Uh b];omega
   rw [e,<- List.drop_drop];simpa using this
theorem ya.cells {α:Type}[Ma α]{μ:M}{a:Option Addr}{c:Nat}:∀ {xs:List α},ya μ a c xs->∃ cells,qa μ cells xs/\(xs≠[]->∃ b o,a=some ⟨b,o,none⟩/\xa μ b o cells):=by
 intro xs h;rcases h.el with rfl | ⟨b,o,rfl,g,p⟩
 ·exact ⟨[],rfl,λh=>absurd rfl h⟩
 ·have key:∀ (l:List α) (k:Nat),xs.drop k=l->∃ cells,qa μ cells l/\xa μ b (o+k*Ma.sz α) cells:=by
   intro l
   induction l with
   | nil=>intro k _; exact ⟨[],rfl,λw _ j v d=>by simp at d⟩
   | cons x l q =>
    intro k i;have r:xs[k]?=some x:=by
     have:=congrArg (λl=>l[0]?) i;simpa using this
    obtain ⟨cells,e,f⟩:=q (k+1) (by rw [<- List.tail_drop,i];rfl);obtain ⟨s,m⟩:=p k x r;refine ⟨g k++cells,qa.cons m e,λw n j v d=>?_⟩;rcases Nat.lt_or_ge j (g k).length with ma | ma
    ·rw [List.getElem?_append_left ma] at d;exact s w n j v d
    ·rw [List.getElem?_append_right ma] at d;have:=f w n _ v d;rw [Ma.Uh m] at this ma;rw [show o+(k+1)*Ma.sz α+(j - Ma.sz α)=o+k*Ma.sz α+j by rw [Nat.add_mul];omega] at this;exact this
  obtain ⟨cells,e,f⟩:=key xs 0 rfl;exact ⟨cells,e,λ_=>⟨b,o,rfl,by simpa using f⟩⟩
section
variable {P:Program}{Q:Exit->Act->World->Prop}{K:List Value->List Deferred->World->Prop}{fr Aa:List Value}{ds:List Deferred}{w:World}
variable {dst:Option Tmp}{ty:TypeId}{pos:String}{after:Array Edge}{g:Option (Nat×Bool)}
variable {da:World}{rs rs':List Ha}{μ:M}
variable {T:TypeId}{d:TypeDesc}{pc:Bool}{Dc:List Value}{n m:Nat}
theorem qB {c:Code}(f:List Nat) (i:f.Nodup) (d:List gb->World->Prop) (j:∀ m w,d m w->opens m=f)
  (h:xd P c (Exit.then (λn w'=>∃ m Aa,n=F Aa ds/\We m fr Aa/\d m w') Q) fr ds w)
  (k:∀ m t w,d m w->Q .normal (F (si t m fr) ds) w):xd P c Q fr ds w:=⟨
 wp_mono h.out λe a w' b=>by
  cases e with
  | normal =>
   obtain ⟨m,Aa,rfl,o,g⟩:=b;obtain ⟨hb,p⟩:=o.ex (by rw [j m w' g];exact i);have:=k m hb w' g;rw [<- p] at this;exact this
  | exit id=>exact b
  | goto l=>exact b
  | ret=>exact b
  | panic q=>exact b
  | outgrown=>exact b⟩
theorem wo {c:Code}(f:List Nat) (k:f.Nodup) (b:Nat->List gb->World->Prop) (h:∀ n m w,b n m w->opens m=f) (zd:Nat) (g:List gb) (l:We g fr fr) (i:b zd g w)
  (round:∀ n m t w,b n m w->xd P c (Exit.then (λo w'=>∃ d e Aa,o=F Aa ds/\We e fr Aa/\b d e w'/\d<n) Q) (si t m fr) ds w):xd P (.loop c) Q fr ds w:=by
 refine oU (α:={ p:Nat×List gb // opens p.2=f }) f k (λp=>p.1.2) (λp=>p.2) (λp w=>b p.1.1 p.1.2 w) (λp _=>p.1.1) ⟨(zd,g),h zd g w i⟩ l i λp t w q=>?_;refine (round p.1.1 p.1.2 t w q).mono (pO λa w' ⟨d,e,Aa,r,s,j,u⟩=>⟨⟨(d,e),h d e w' j⟩,Aa,r,s,j,u⟩)
theorem qj {c:Operand}{x y:Code}{b:Bool}(a:ab fr c (.bool b)) (d:b=true->xd P x Q fr ds w) (e:¬ b=true->xd P y Q fr ds w):xd P (.cond c x y) Q fr ds w :=
 Qr a d λh=>e (by rw [h];simp)
theorem Xu {c:Operand}{x y:Code}{b:Bool}(a:ab fr c (.bool (!b))) (d:¬ b=true->xd P x Q fr ds w) (e:b=true->xd P y Q fr ds w):xd P (.cond c x y) Q fr ds w :=
 Qr a (λh=>d (by simpa using h)) λh=>e (by simpa using h)
theorem pL {ops:Array Oper}{l:List Oper}{Fi Gi:List Value}{d:Nat}{b:Bool}(ma:fc fr d (.bool b)) (a:Zb fr d (.bool true) Fi) (c:Zb fr d (.bool false) Gi)
  (e:b=true->He P ops Q l Fi ds w) (f:¬ b=true->He P ops Q l Gi ds w):He P ops Q l fr ds w:=QG ma a c e λh=>f (by rw [h];simp)
theorem PK {ops:Array Oper}{l:List Oper}{Fi Gi:List Value}{d:Nat}{b:Bool}(ma:fc fr d (.bool (!b))) (a:Zb fr d (.bool true) Fi) (c:Zb fr d (.bool false) Gi)
  (e:¬ b=true->He P ops Q l Fi ds w) (f:b=true->He P ops Q l Gi ds w):He P ops Q l fr ds w:=QG ma a c (λh=>e (by simpa using h)) λh=>f (by simpa using h)
inductive Hc:List Ha->Nat->List Ha->Prop where
 | z {rs:List Ha}:Hc rs 0 rs
 | s {a r:Ha} {rs rs':List Ha} {k:Nat} (h:Hc rs k (r::rs')):Hc (a::rs) (k+1) (r::a::rs')
theorem Hc.perm {k:Nat}{rs rs':List Ha}(h:Hc rs k rs'):rs.Perm rs':=by
 induction h with
 | z=>exact .refl _
 | s _ a=>exact (a.cons _).trans (.swap _ _ _)
theorem _root_.Go.Mc.Sep.ia {k:Nat}{S Ic:Nat->Prop}{A:World->Prop}(h:Sep S Ic da w rs A) (a:Hc rs k rs'):Sep S Ic da w rs' A where
 keeps:=h.keeps
 all r d:=h.all r (a.perm.mem_iff.2 d)
 ti:=(a.perm.filterMap _).nodup_iff.1 h.ti
 new b e:=h.new b ((a.perm.filterMap _).mem_iff.2 e)
 bj:=h.bj.mono λk _ c=>⟨c.1,λf=>c.2 ((a.perm.filterMap Ha.block).mem_iff.2 f)⟩
theorem _root_.Go.Mc.Sep.dC {r:Ha}{B:World->Prop}(h:fa μ da w (r::rs)) (hB:∀ w,r.holds w->B w):fa (λw=>μ w/\B w) da w rs :=
 Sep.freeze h (d0 (α:=Ha)) ja.z (λ_ _=>.inl trivial) hB
theorem _root_.Go.Mc.Sep.Bi {α:Type}[Ma α]{v:Value}{cells:List Value}{l:List α}(h:fa μ da w (.row v T (Ma.sz α) n cells::rs)) (p:qa μ cells l) (f:l.length=n) :
  ∃ J a c,v=.slice a l.length c/\ha μ J/\ya J a c l/\fa J da w rs:=by
 have q:Row w v T (Ma.sz α) n cells:=h.all _ (List.mem_cons_self ..);have k:=Sep.dC (B:=λw=>Row w v T (Ma.sz α) n cells) h λw d=>d;have hle:ha μ (λw=>μ w/\Row w v T (Ma.sz α) n cells):=λw d=>d.1;rcases q.2 with ⟨rfl,rfl⟩ | ⟨g,o,cap,cur,rfl,D,r,s,E,F⟩
 ·obtain rfl:=List.eq_nil_of_length_eq_zero f;exact ⟨_,none,0,rfl,hle,ya.nil,k⟩
 ·subst f;refine ⟨_,some ⟨g,o,none⟩,cap,rfl,hle,⟨r,s,.inr ⟨g,o,rfl,λi=>(cells.drop (i*Ma.sz α)).take (Ma.sz α),λi x m=>⟨?_,?_⟩⟩⟩,k⟩
  ·intro G t j u e;obtain ⟨-,y⟩:=t;have z:0<l.length:=by have:=(List.getElem?_eq_some_iff.1 m).1;omega
   obtain ⟨b,H,c,Pa,A⟩:=y.Pn z;simp at Pa;obtain ⟨⟨rfl,rfl⟩,rfl⟩:=Pa;have C:j<Ma.sz α:=by
    have:=(List.getElem?_eq_some_iff.1 e).1;simp at this;omega
   rw [List.getElem?_take_of_lt C,List.getElem?_drop] at e;have:=A _ u e;rw [<- Nat.add_assoc] at this;exact this
  ·exact Ma.up hle<|p.get m
theorem _root_.Go.Mc.Sep.xo {α:Type}[Ma α]{b:Nat}{cells:List Value}{l:List α}(h:fa μ da w (.ea b T cells::rs)) (d:qa μ cells l) (e:l.length<=maxLen) :
  ∃ J,ha μ J/\ya J (some ⟨b,0,none⟩) l.length l/\fa J da w rs:=by
 have f:=Sep.dC (B:=λw=>Ak w b T cells) h λw a=>a;have hle:ha μ (λw=>μ w/\Ak w b T cells):=λw a=>a.1;refine ⟨_,hle,⟨Nat.le_refl _,e,.inr ⟨b,0,rfl,λi=>(cells.drop<|i*Ma.sz α).take (Ma.sz α),λi x g=>⟨?_,Ma.up hle<|d.get g⟩⟩⟩,f⟩;intro n k j u c;have m:j<Ma.sz α:=by
  have:=(List.getElem?_eq_some_iff.1 c).1;simp at this;omega
 rw [List.getElem?_take_of_lt m,List.getElem?_drop] at c;have:=k.2.cells _ u c;rw [Nat.zero_add] at this ⊢;exact this
theorem _root_.Go.Mc.Sep.Xd {b:Nat}{cells:List Value}(h:fa μ da w (.ea b T cells::rs)):∃ J,ha μ J/\xa J b 0 cells/\fa J da w rs :=
 ⟨_,λ_ a=>a.1,λ_ a=>a.2.cells,Sep.dC (B:=λw=>Ak w b T cells) h λ_ a=>a⟩
theorem _root_.Go.Mc.Sep.gq {sz:Nat}{b k:Nat}{cells:List Value}{S Ic:Nat->Prop}{A:World->Prop}(h:Sep S Ic da w rs A) (ma:fc rs k (.ea b T cells)) (a:cells.length=n*sz) (c:n<=maxLen)
  (d:Zb rs k (.row (.slice (some ⟨b,0,none⟩) n n) T sz n cells) rs'):Sep S Ic da w rs' A:=by
 have e:Ak w b T cells:=h.get ma;refine h.put (b:=b) ma rfl rfl d ⟨a,.inr ⟨b,0,n,⟨cells⟩,rfl,e,Nat.le_refl _,c,by simp [a],by simp [<- a]⟩⟩<|Yi.refl _
theorem _root_.Go.Mc.Row.elem {α:Type}[Ma α]{v:Value}{cells:List Value}{l:List α}{i:Int}{x:α}(h:Row w v T (Ma.sz α) n cells) (d:qa μ cells l) (e:l.length=n) (g:at_ l i=some x) :
  ∃ b o cs,Bk v (Ma.sz α) i b o/\(∀ w T,Row w v T (Ma.sz α) n cells->lj w b o cs)/\Ma.cs μ cs x:=by
 obtain ⟨f,k,m⟩:=Wu g;obtain ⟨b,o,c,rfl,s⟩:=h.Pn (by omega);subst e;refine ⟨b,o+i.toNat*Ma.sz α,_,⟨o,_,_,rfl,f,k,rfl⟩,?_,d.get m⟩;intro t y p j u a;obtain ⟨Qc,z,c',Pa,q⟩:=p.Pn (by omega);simp at Pa;obtain ⟨⟨rfl,rfl⟩,rfl⟩:=Pa;have r:j<Ma.sz α:=by
  have:=(List.getElem?_eq_some_iff.1 a).1;simp at this;omega
 rw [List.getElem?_take_of_lt r,List.getElem?_drop] at a;have:=q _ u a;rw [<- Nat.add_assoc] at this;exact this
theorem Nb {x y:Operand}{v:Value}{b o sz:Nat}{k:IntKind}{i:Int}{e:TypeId}(a:P.underlying T=some (.slice e)) (d:wb P e pc Dc sz m) (f:ab fr x v) (h:ab fr y (.int k i)) (j:Bk v sz i b o):Cf P (Oper.mk dst (.indexAddr T x y) ty pos after g) fr ((.pointer (some ⟨b,o,none⟩))):=by
 obtain ⟨r,n,c,rfl,l,p,q⟩:=j.out;exact Oy a d f h ⟨l,p⟩ q
theorem np {x y:Operand}{v:Value}{b o sz:Nat}{k:IntKind}{i:Int}{e:TypeId}(a:P.underlying T=some (.slice e)) (c:wb P e pc Dc sz m) (d:ab fr x v) (f:ab fr y (.int k i)) (j:Bk v sz i b o) (l:Bf fr dst ((.pointer (some ⟨b,o,none⟩))) Aa) (h:K Aa ds w):yd P (Oper.mk dst (.indexAddr T x y) ty pos after g) fr ds w K Q:=Pb (Nb a c d f j) l h
theorem xt {x y:Operand}{t hb:TypeId}{a b c:Int}(d:ab fr x (.int .i64 a)) (e:ab fr y (.int .i64 b)) (h:i64 (a+b)=some c):Cf P (Oper.mk dst (.binOp .add t x y hb) ty pos after g) fr ((.int .i64 c)):=mB d e (UI h)
theorem yo {x y:Operand}{t hb:TypeId}{a b c:Int}(d:ab fr x (.int .i64 a)) (e:ab fr y (.int .i64 b)) (h:i64 (a+b)=some c) (f:Bf fr dst ((.int .i64 c)) Aa) (k:K Aa ds w):yd P (Oper.mk dst (.binOp .add t x y hb) ty pos after g) fr ds w K Q:=Pb (xt d e h) f k
theorem pw {x y:Operand}{t hb:TypeId}{a b c:Int}(d:ab fr x (.int .i64 a)) (e:ab fr y (.int .i64 b)) (h:i64 (a - b)=some c):Cf P (Oper.mk dst (.binOp .sub t x y hb) ty pos after g) fr ((.int .i64 c)):=nB d e (UI h)
theorem qw {a b c:Int}(h:quo a b=some c):b≠0/\IntKind.i64.wrap (a.tdiv b)=c:=by
 unfold quo at h;split at h
 ·cases h
 ·rename_i d;exact ⟨d,Option.some.inj h⟩
theorem GS {x y:Operand}{t:TypeId}{k:IntKind}{a:List UInt8}{i:Int}{c:UInt8}(b:P.underlying t=some .string) (d:ab fr x (S a)) (e:ab fr y (.int k i)) (h:at_ a i=some c):Cf P (Oper.mk dst (.index t x y) ty pos after g) fr (.int .u8 c.toNat):=BS b d e (Wu h).1 (Wu h).2.2
theorem HS {x y:Operand}{t hb:TypeId}{a b c:List UInt8}(d:ab fr x (S a)) (e:ab fr y (S b)) (h:cat a b=some c):Cf P (Oper.mk dst (.binOp .add t x y hb) ty pos after g) fr (S c):=by
 obtain ⟨rfl,ma⟩:=ES h;exact xU d e ma
structure nv (v:Value) (sz:Nat) (i j:Option Int) (b:Value):Prop where
 out:∃ a n c,v=.slice a n c/\0<=i.getD 0/\i.getD 0<=j.getD n/\j.getD n<=c/\b=.slice (if c=(i.getD 0).toNat then a else a.map (·.add ((i.getD 0).toNat*sz))) ((j.getD n).toNat - (i.getD 0).toNat) (c - (i.getD 0).toNat)
inductive wC (fr:List Value):Option Operand->Option Int->Prop where
 | n:wC fr none none
 | s {x:Operand} {i:Int} (h:ab fr x (.int .i64 i)):wC fr (some x) (some i)
theorem qp {x:Operand}{jk up:Option Operand}{v q:Value}{sz:Nat}{i j:Option Int}{e:TypeId}(f:P.underlying T=some (.slice e)) (k:wb P e pc Dc sz m) (l:ab fr x v) (t:wC fr jk i) (r:wC fr up j) (u:nv v sz i j q):Cf P (Oper.mk dst (.slice T x jk up none) ty pos after g) fr q:=by
 obtain ⟨a,n,c,rfl,o,b,d,rfl⟩:=u.out;refine ⟨λds w=>?_⟩;cases t with
 | n =>
  cases r with
  | n =>
   simp at b d;simp [execOp,l ds,Instr.sliceAt,Instr.slice,run_underlying f,Instr.sliceBounds,k.sizeOf];try rfl
  | s h =>
   rename_i y i;simp at b d;have ua:i<=(c:Int):=d;simp [execOp,l ds,h ds,Instr.sliceAt,Instr.slice,run_underlying f,Instr.sliceBounds,Instr.sliceBound,asIntOf,k.sizeOf,b,ua];try rfl
 | s h =>
  rename_i y i;cases r with
  | n =>
   simp at o b d;simp [execOp,l ds,h ds,Instr.sliceAt,Instr.slice,run_underlying f,Instr.sliceBounds,Instr.sliceBound,asIntOf,k.sizeOf,o,b];try rfl
  | s z =>
   rename_i B p;simp at o b d;have ua:0<=p:=by omega
   have A:(p.toNat:Int)=p:=by omega
   simp [execOp,l ds,h ds,z ds,Instr.sliceAt,Instr.slice,run_underlying f,Instr.sliceBounds,Instr.sliceBound,asIntOf,k.sizeOf,o,b,d,ua,A];try rfl
theorem ya.Pw {α:Type}[Ma α]{μ:M}{a:Option Addr}{c:Nat}{xs ys:List α}{i j:Option Int}(h:ya μ a c xs) (g:cut xs (i.getD 0) (j.getD xs.length)=some ys) :
  ∃ e c',nv (.slice a xs.length c) (Ma.sz α) i j (.slice e ys.length c')/\ya μ e c' ys:=by
 obtain ⟨⟨l,m,r⟩,rfl⟩:=nw g;have hle:=h.le;refine ⟨(if c=(i.getD 0).toNat then a else a.map (·.add ((i.getD 0).toNat*Ma.sz α))),c - (i.getD 0).toNat,⟨a,xs.length,c,rfl,l,m,by omega,?_⟩,?_⟩
 ·rw [show ((xs.take (j.getD ↑xs.length).toNat).drop (i.getD 0).toNat).length=(j.getD ↑xs.length).toNat - (i.getD 0).toNat by simp;omega]
 ·refine ⟨by simp;omega,by have:=h.cap;omega,?_⟩;rcases h.el with rfl | ⟨b,o,rfl,f,n⟩
  ·left;simp
  ·by_cases p:c=(i.getD 0).toNat
   ·left;rw [List.drop_eq_nil_iff];simp;omega
   ·right;rw [if_neg p];refine ⟨b,o+(i.getD 0).toNat*Ma.sz α,by simp [il],λk=>f ((i.getD 0).toNat+k),λk x d=>?_⟩;rw [List.getElem?_drop] at d;have q:(i.getD 0).toNat+k<(j.getD ↑xs.length).toNat:=by
     have:=(List.getElem?_eq_some_iff.1 d).1;simp at this;omega
    rw [List.getElem?_take_of_lt q] at d;have:=n _ x d;rw [Nat.add_mul,<- Nat.add_assoc] at this;exact this
end
section
variable {P:Program}{Q:Exit->Act->World->Prop}{K:List Value->List Deferred->World->Prop}{fr Aa:List Value}{ds:List Deferred}{w:World}
variable {dst:Option Tmp}{ty:TypeId}{pos:String}{after:Array Edge}{g:Option (Nat×Bool)}
variable {da:World}{rs rs':List Ha}{μ:M}
variable {T:TypeId}{d:TypeDesc}{pc:Bool}{Dc:List Value}{n m:Nat}
theorem wP {x jk:Operand}{t:TypeId}{a b:List UInt8}{i:Int}(c:P.underlying t=some .string) (d:ab fr x (S a)) (e:ab fr jk (.int .i64 i)) (h:cut a i a.length=some b):Cf P (Oper.mk dst (.slice t x (some jk) none none) ty pos after g) fr (S b):=by
 obtain ⟨⟨f,j,k⟩,rfl⟩:=nw h;have:=TQ (dst:=dst) (ty:=ty) (pos:=pos) (after:=after) (g:=g) c d e ⟨f,j⟩;simpa using this
theorem xP {x up:Operand}{t:TypeId}{a b:List UInt8}{j:Int}(c:P.underlying t=some .string) (d:ab fr x (S a)) (e:ab fr up (.int .i64 j)) (h:cut a 0 j=some b):Cf P (Oper.mk dst (.slice t x none (some up) none) ty pos after g) fr (S b):=by
 obtain ⟨⟨k,f,i⟩,rfl⟩:=nw h;have:=UQ (dst:=dst) (ty:=ty) (pos:=pos) (after:=after) (g:=g) c d e ⟨f,i⟩;simpa using this
theorem _root_.Go.Mc.Row.ee {v:Value}{sz n:Nat}{xs:List Value}(h:Row w v T sz n xs):ee v=true:=by
 rcases h.2 with ⟨rfl,_⟩ | ⟨g,o,cap,cur,rfl,_⟩<;>rfl
theorem cK {f:Nat}{xs ys:List Operand}{vs us:List Value}(a:Pm fr xs vs) (b:Pm fr ys us):Cf P (Oper.mk dst (.makeFunc (.func f) ⟨xs⟩ ⟨ys⟩) ty pos after g) fr (.func (.func f) ⟨vs⟩ ⟨us⟩):=by
 refine ⟨λds w=>?_⟩;have c:=a ds;have d:=b ds;simp [execOp,Instr.makeFunc,c,d]
theorem qa.app {α:Type}[Ma α]{cells news:List Value}{l xs Ba:List α}(h:qa μ cells l) (k:qa μ news xs) (g:app l xs=some Ba):qa μ (cells++news) Ba:=by
 obtain ⟨rfl,-⟩:=ow g;exact qa.cat k h
theorem PA {α:Type}{l xs Ba:List α}(g:app l xs=some Ba):Ba.length=l.length+xs.length/\l.length+xs.length<=4294967296:=by
 obtain ⟨rfl,h⟩:=ow g;exact ⟨by simp,h⟩
theorem Mi {α:Type}[Ma α]{t:TypeId}{s x:Operand}{v:Value}{bytes k b d c:Nat}{cells news:List Value}{l ys Ba:List α}(f:P.underlying t=some (.slice T)) (i:wb P T pc Dc (Ma.sz α) bytes) (j:Dc.length=Ma.sz α)
  (m:ab fr s v) (n:ab fr x (.slice (some ⟨b,0,none⟩) d c)) (o:fa μ da w rs) (ma:fc rs k (.row v T (Ma.sz α) l.length cells)) (p:lj w b 0 news) (e:qa μ news ys) (q:ys.length=d) (r:app l ys=some Ba) (u:bytes<=4096)
  (h:∀ a w' rs',Zb rs k (.row a T (Ma.sz α) Ba.length (cells++news)) rs'->fa μ da w' rs'->Rg fr dst a λAa=>K Aa ds w') :
  yd P (Oper.mk dst (.call { callee:=.builtin .append,args:=#[s,x],argTypes:=#[t,t] }) ty pos after g) fr ds w K Q:=by
 obtain ⟨y,z⟩:=PA r;subst q;refine Gu f i (by simp [j,Ma.pos]) m n o ma p e.len e.pg ⟨z,u⟩ λa w' rs' A=>h a w' rs' (by rw [y];exact A)
theorem _root_.Go.Mc.lj.qg {b o:Nat}{cs:List Value}(h:lj w b o cs) (i n:Nat):lj w b (o+i) ((cs.drop i).take n):=by
 intro j v a;have c:j<n:=by
  have:=(List.getElem?_eq_some_iff.1 a).1;simp at this;omega
 rw [List.getElem?_take_of_lt c,List.getElem?_drop] at a;have:=h _ v a;rw [<- Nat.add_assoc] at this;exact this
theorem xa.qg {b o:Nat}{cs:List Value}(h:xa μ b o cs) (i n:Nat):xa μ b (o+i) ((cs.drop i).take n):=λw a=>(h w a).qg i n
theorem Kb {x y:Operand}{b k:Nat}{cs vs:List Value}(a:wb P T pc Dc n m) (d:ab fr x (.pointer (some ⟨b,0,none⟩))) (e:ab fr y (.agg ⟨vs⟩)) (f:vs.length=n) (i:vs.all ee=true)
  {S Ic:Nat->Prop}{A:World->Prop}(j:Sep S Ic da w rs A) {vf:TypeId}(ma:fc rs k (.ea b vf cs)) (p:cs.length=n) (l:Zb rs k (.ea b vf vs) rs')
  (Ea:Bf fr dst undef Aa) (h:∀ w',Sep S Ic da w' rs' A->K Aa ds w'):yd P (Oper.mk dst (.store T x y) ty pos after g) fr ds w K Q:=by
 have key:∀ (vs cs pre:List Value),vs.length=cs.length->bh (pre++cs) pre.length vs (pre++vs):=by
  intro vs
  induction vs with
  | nil=>intro cs pre h; cases cs with
   | nil=>exact .z
   | cons c cs=>simp at h
  | cons v vs o =>
   intro cs pre h;cases cs with
   | nil=>simp at h
   | cons c cs =>
    refine .s (cs1:=pre++v::cs) (by unfold Zb;simp) (by simp) ?_;have:=o cs (pre++[v]) (by simpa using h);simpa using this
 exact TE a d e rfl f i j ma (by simpa using key vs cs [] (by omega)) (by simp) l Ea h
theorem gp {pl:Array (Nat×Nat)}{xs:List (Nat×Operand)}{out:List Value}(a:wb P T pc Dc n m) (b:Re P T pl) (c:cb fr pl Dc xs out):Cf P (Oper.mk dst (.build T ⟨xs⟩) ty pos after g) fr (.agg ⟨out⟩):=by
 refine ⟨λds w=>?_⟩;obtain ⟨z,d,e⟩:=a.zero (w:=w);have f:=c.run (ds:=ds);obtain ⟨l,h,j⟩:=b.out;have k:=j w;have ma:((⟨xs⟩:Array (Nat×Operand)).map λ(i,x)=>(i,(F fr ds).eval x)).toList=xs.map λp=>(p.1,(F fr ds).eval p.2):=by simp
 unfold execOp;simp only [Instr.build,Sem.run_bind,d,Result.andThen_ok,run_underlying h];rw [k];simp only [Result.andThen_ok,e,ma];rw [f];simp
end
end Go.Kf
namespace Go.Mc
theorem pa {α:Type}{a oa b c d a5 zb Cb lb e v:α}{l:List α}{n:Nat}(h:fc l n v):fc (a::oa::b::c::d::a5::zb::Cb::lb::e::l) (n+10) v:=h
theorem tb {α:Type}{a oa b c d a5 zb Cb lb e v:α}{l Ba:List α}{n:Nat}(h:Zb l n v Ba):Zb (a::oa::b::c::d::a5::zb::Cb::lb::e::l) (n+10) v (a::oa::b::c::d::a5::zb::Cb::lb::e::Ba):=by unfold Zb at *;subst h;rfl
theorem Ca {α:Type}{a oa b c d a5 zb Cb lb e ld mc f g Vb Bd i Cc j k v:α}{l:List α}{n:Nat}(h:fc l n v):fc (a::oa::b::c::d::a5::zb::Cb::lb::e::ld::mc::f::g::Vb::Bd::i::Cc::j::k::l) (n+20) v:=h
theorem wc {α:Type}{a oa b c d a5 zb Cb lb e ld mc f g Vb Bd i Cc j k v:α}{l Ba:List α}{n:Nat}(h:Zb l n v Ba):Zb (a::oa::b::c::d::a5::zb::Cb::lb::e::ld::mc::f::g::Vb::Bd::i::Cc::j::k::l) (n+20) v (a::oa::b::c::d::a5::zb::Cb::lb::e::ld::mc::f::g::Vb::Bd::i::Cc::j::k::Ba):=by unfold Zb at *;subst h;rfl
theorem La {α:Type}{a oa b c d a5 zb Cb lb e ld mc f g Vb Bd i Cc j k m o p q r s t u w x v:α}{l:List α}{n:Nat}(h:fc l n v):fc (a::oa::b::c::d::a5::zb::Cb::lb::e::ld::mc::f::g::Vb::Bd::i::Cc::j::k::m::o::p::q::r::s::t::u::w::x::l) (n+30) v:=h
theorem Ce {α:Type}{a oa b c d a5 zb Cb lb e ld mc f g Vb Bd i Cc j k m o p q r s t u w x v:α}{l Ba:List α}{n:Nat}(h:Zb l n v Ba):Zb (a::oa::b::c::d::a5::zb::Cb::lb::e::ld::mc::f::g::Vb::Bd::i::Cc::j::k::m::o::p::q::r::s::t::u::w::x::l) (n+30) v (a::oa::b::c::d::a5::zb::Cb::lb::e::ld::mc::f::g::Vb::Bd::i::Cc::j::k::m::o::p::q::r::s::t::u::w::x::Ba):=by unfold Zb at *;subst h;rfl
theorem Va {α:Type}{a oa b c d a5 zb Cb lb e ld mc f g Vb Bd i Cc j k m o p q r s t u w x y z A B C D E F G H v:α}{l:List α}{n:Nat}(h:fc l n v):fc (a::oa::b::c::d::a5::zb::Cb::lb::e::ld::mc::f::g::Vb::Bd::i::Cc::j::k::m::o::p::q::r::s::t::u::w::x::y::z::A::B::C::D::E::F::G::H::l) (n+40) v:=h
theorem xe {α:Type}{a oa b c d a5 zb Cb lb e ld mc f g Vb Bd i Cc j k m o p q r s t u w x y z A B C D E F G H v:α}{l Ba:List α}{n:Nat}(h:Zb l n v Ba):Zb (a::oa::b::c::d::a5::zb::Cb::lb::e::ld::mc::f::g::Vb::Bd::i::Cc::j::k::m::o::p::q::r::s::t::u::w::x::y::z::A::B::C::D::E::F::G::H::l) (n+40) v (a::oa::b::c::d::a5::zb::Cb::lb::e::ld::mc::f::g::Vb::Bd::i::Cc::j::k::m::o::p::q::r::s::t::u::w::x::y::z::A::B::C::D::E::F::G::H::Ba):=by unfold Zb at *;subst h;rfl
theorem sb {α:Type}{a oa b c d a5 zb Cb lb e ld mc f g Vb Bd i Cc j k m o p q r s t u w x y z A B C D E F G H K L M N O P Q R S T v:α}{l:List α}{n:Nat}(h:fc l n v):fc (a::oa::b::c::d::a5::zb::Cb::lb::e::ld::mc::f::g::Vb::Bd::i::Cc::j::k::m::o::p::q::r::s::t::u::w::x::y::z::A::B::C::D::E::F::G::H::K::L::M::N::O::P::Q::R::S::T::l) (n+50) v:=h
theorem af {α:Type}{a oa b c d a5 zb Cb lb e ld mc f g Vb Bd i Cc j k m o p q r s t u w x y z A B C D E F G H K L M N O P Q R S T v:α}{l Ba:List α}{n:Nat}(h:Zb l n v Ba):Zb (a::oa::b::c::d::a5::zb::Cb::lb::e::ld::mc::f::g::Vb::Bd::i::Cc::j::k::m::o::p::q::r::s::t::u::w::x::y::z::A::B::C::D::E::F::G::H::K::L::M::N::O::P::Q::R::S::T::l) (n+50) v (a::oa::b::c::d::a5::zb::Cb::lb::e::ld::mc::f::g::Vb::Bd::i::Cc::j::k::m::o::p::q::r::s::t::u::w::x::y::z::A::B::C::D::E::F::G::H::K::L::M::N::O::P::Q::R::S::T::Ba):=by unfold Zb at *;subst h;rfl
theorem dc {α:Type}{a oa b c d a5 zb Cb lb e ld mc f g Vb Bd i Cc j k m o p q r s t u w x y z A B C D E F G H K L M N O P Q R S T U V W X Y Z bb Gb gc lc v:α}{l:List α}{n:Nat}(h:fc l n v):fc (a::oa::b::c::d::a5::zb::Cb::lb::e::ld::mc::f::g::Vb::Bd::i::Cc::j::k::m::o::p::q::r::s::t::u::w::x::y::z::A::B::C::D::E::F::G::H::K::L::M::N::O::P::Q::R::S::T::U::V::W::X::Y::Z::bb::Gb::gc::lc::l) (n+60) v:=h
theorem Pf {α:Type}{a oa b c d a5 zb Cb lb e ld mc f g Vb Bd i Cc j k m o p q r s t u w x y z A B C D E F G H K L M N O P Q R S T U V W X Y Z bb Gb gc lc v:α}{l Ba:List α}{n:Nat}(h:Zb l n v Ba):Zb (a::oa::b::c::d::a5::zb::Cb::lb::e::ld::mc::f::g::Vb::Bd::i::Cc::j::k::m::o::p::q::r::s::t::u::w::x::y::z::A::B::C::D::E::F::G::H::K::L::M::N::O::P::Q::R::S::T::U::V::W::X::Y::Z::bb::Gb::gc::lc::l) (n+60) v (a::oa::b::c::d::a5::zb::Cb::lb::e::ld::mc::f::g::Vb::Bd::i::Cc::j::k::m::o::p::q::r::s::t::u::w::x::y::z::A::B::C::D::E::F::G::H::K::L::M::N::O::P::Q::R::S::T::U::V::W::X::Y::Z::bb::Gb::gc::lc::Ba):=by unfold Zb at *;subst h;rfl
theorem Ac {α:Type}{a oa b c d a5 zb Cb lb e ld mc f g Vb Bd i Cc j k m o p q r s t u w x y z A B C D E F G H K L M N O P Q R S T U V W X Y Z bb Gb gc lc rc fd id md nd rd wd Fd Id be v:α}{l:List α}{n:Nat}(h:fc l n v):fc (a::oa::b::c::d::a5::zb::Cb::lb::e::ld::mc::f::g::Vb::Bd::i::Cc::j::k::m::o::p::q::r::s::t::u::w::x::y::z::A::B::C::D::E::F::G::H::K::L::M::N::O::P::Q::R::S::T::U::V::W::X::Y::Z::bb::Gb::gc::lc::rc::fd::id::md::nd::rd::wd::Fd::Id::be::l) (n+70) v:=h
theorem fg {α:Type}{a oa b c d a5 zb Cb lb e ld mc f g Vb Bd i Cc j k m o p q r s t u w x y z A B C D E F G H K L M N O P Q R S T U V W X Y Z bb Gb gc lc rc fd id md nd rd wd Fd Id be v:α}{l Ba:List α}{n:Nat}(h:Zb l n v Ba):Zb (a::oa::b::c::d::a5::zb::Cb::lb::e::ld::mc::f::g::Vb::Bd::i::Cc::j::k::m::o::p::q::r::s::t::u::w::x::y::z::A::B::C::D::E::F::G::H::K::L::M::N::O::P::Q::R::S::T::U::V::W::X::Y::Z::bb::Gb::gc::lc::rc::fd::id::md::nd::rd::wd::Fd::Id::be::l) (n+70) v (a::oa::b::c::d::a5::zb::Cb::lb::e::ld::mc::f::g::Vb::Bd::i::Cc::j::k::m::o::p::q::r::s::t::u::w::x::y::z::A::B::C::D::E::F::G::H::K::L::M::N::O::P::Q::R::S::T::U::V::W::X::Y::Z::bb::Gb::gc::lc::rc::fd::id::md::nd::rd::wd::Fd::Id::be::Ba):=by unfold Zb at *;subst h;rfl
theorem Nc {α:Type}{a oa b c d a5 zb Cb lb e ld mc f g Vb Bd i Cc j k m o p q r s t u w x y z A B C D E F G H K L M N O P Q R S T U V W X Y Z bb Gb gc lc rc fd id md nd rd wd Fd Id be ce ge ne Ne of wf If dg rg bi v:α}{l:List α}{n:Nat}(h:fc l n v):fc (a::oa::b::c::d::a5::zb::Cb::lb::e::ld::mc::f::g::Vb::Bd::i::Cc::j::k::m::o::p::q::r::s::t::u::w::x::y::z::A::B::C::D::E::F::G::H::K::L::M::N::O::P::Q::R::S::T::U::V::W::X::Y::Z::bb::Gb::gc::lc::rc::fd::id::md::nd::rd::wd::Fd::Id::be::ce::ge::ne::Ne::of::wf::If::dg::rg::bi::l) (n+80) v:=h
theorem Ri {α:Type}{a oa b c d a5 zb Cb lb e ld mc f g Vb Bd i Cc j k m o p q r s t u w x y z A B C D E F G H K L M N O P Q R S T U V W X Y Z bb Gb gc lc rc fd id md nd rd wd Fd Id be ce ge ne Ne of wf If dg rg bi v:α}{l Ba:List α}{n:Nat}(h:Zb l n v Ba):Zb (a::oa::b::c::d::a5::zb::Cb::lb::e::ld::mc::f::g::Vb::Bd::i::Cc::j::k::m::o::p::q::r::s::t::u::w::x::y::z::A::B::C::D::E::F::G::H::K::L::M::N::O::P::Q::R::S::T::U::V::W::X::Y::Z::bb::Gb::gc::lc::rc::fd::id::md::nd::rd::wd::Fd::Id::be::ce::ge::ne::Ne::of::wf::If::dg::rg::bi::l) (n+80) v (a::oa::b::c::d::a5::zb::Cb::lb::e::ld::mc::f::g::Vb::Bd::i::Cc::j::k::m::o::p::q::r::s::t::u::w::x::y::z::A::B::C::D::E::F::G::H::K::L::M::N::O::P::Q::R::S::T::U::V::W::X::Y::Z::bb::Gb::gc::lc::rc::fd::id::md::nd::rd::wd::Fd::Id::be::ce::ge::ne::Ne::of::wf::If::dg::rg::bi::Ba):=by unfold Zb at *;subst h;rfl
theorem sd {α:Type}{a oa b c d a5 zb Cb lb e ld mc f g Vb Bd i Cc j k m o p q r s t u w x y z A B C D E F G H K L M N O P Q R S T U V W X Y Z bb Gb gc lc rc fd id md nd rd wd Fd Id be ce ge ne Ne of wf If dg rg bi ci ii li pi Pi dl el nl ol pl v:α}{l:List α}{n:Nat}(h:fc l n v):fc (a::oa::b::c::d::a5::zb::Cb::lb::e::ld::mc::f::g::Vb::Bd::i::Cc::j::k::m::o::p::q::r::s::t::u::w::x::y::z::A::B::C::D::E::F::G::H::K::L::M::N::O::P::Q::R::S::T::U::V::W::X::Y::Z::bb::Gb::gc::lc::rc::fd::id::md::nd::rd::wd::Fd::Id::be::ce::ge::ne::Ne::of::wf::If::dg::rg::bi::ci::ii::li::pi::Pi::dl::el::nl::ol::pl::l) (n+90) v:=h
theorem Jh {α:Type}{a oa b c d a5 zb Cb lb e ld mc f g Vb Bd i Cc j k m o p q r s t u w x y z A B C D E F G H K L M N O P Q R S T U V W X Y Z bb Gb gc lc rc fd id md nd rd wd Fd Id be ce ge ne Ne of wf If dg rg bi ci ii li pi Pi dl el nl ol pl v:α}{l Ba:List α}{n:Nat}(h:Zb l n v Ba):Zb (a::oa::b::c::d::a5::zb::Cb::lb::e::ld::mc::f::g::Vb::Bd::i::Cc::j::k::m::o::p::q::r::s::t::u::w::x::y::z::A::B::C::D::E::F::G::H::K::L::M::N::O::P::Q::R::S::T::U::V::W::X::Y::Z::bb::Gb::gc::lc::rc::fd::id::md::nd::rd::wd::Fd::Id::be::ce::ge::ne::Ne::of::wf::If::dg::rg::bi::ci::ii::li::pi::Pi::dl::el::nl::ol::pl::l) (n+90) v (a::oa::b::c::d::a5::zb::Cb::lb::e::ld::mc::f::g::Vb::Bd::i::Cc::j::k::m::o::p::q::r::s::t::u::w::x::y::z::A::B::C::D::E::F::G::H::K::L::M::N::O::P::Q::R::S::T::U::V::W::X::Y::Z::bb::Gb::gc::lc::rc::fd::id::md::nd::rd::wd::Fd::Id::be::ce::ge::ne::Ne::of::wf::If::dg::rg::bi::ci::ii::li::pi::Pi::dl::el::nl::ol::pl::Ba):=by unfold Zb at *;subst h;rfl
theorem Da {α:Type}{a oa b c d a5 zb Cb lb e ld mc f g Vb Bd i Cc j k m o p q r s t u w x y z A B C D E F G H K L M N O P Q R S T U V W X Y Z bb Gb gc lc rc fd id md nd rd wd Fd Id be ce ge ne Ne of wf If dg rg bi ci ii li pi Pi dl el nl ol pl ul wl am em hm lm sm Nm fn on v:α}{l:List α}{n:Nat}(h:fc l n v):fc (a::oa::b::c::d::a5::zb::Cb::lb::e::ld::mc::f::g::Vb::Bd::i::Cc::j::k::m::o::p::q::r::s::t::u::w::x::y::z::A::B::C::D::E::F::G::H::K::L::M::N::O::P::Q::R::S::T::U::V::W::X::Y::Z::bb::Gb::gc::lc::rc::fd::id::md::nd::rd::wd::Fd::Id::be::ce::ge::ne::Ne::of::wf::If::dg::rg::bi::ci::ii::li::pi::Pi::dl::el::nl::ol::pl::ul::wl::am::em::hm::lm::sm::Nm::fn::on::l) (n+100) v:=h
theorem Lb {α:Type}{a oa b c d a5 zb Cb lb e ld mc f g Vb Bd i Cc j k m o p q r s t u w x y z A B C D E F G H K L M N O P Q R S T U V W X Y Z bb Gb gc lc rc fd id md nd rd wd Fd Id be ce ge ne Ne of wf If dg rg bi ci ii li pi Pi dl el nl ol pl ul wl am em hm lm sm Nm fn on v:α}{l Ba:List α}{n:Nat}(h:Zb l n v Ba):Zb (a::oa::b::c::d::a5::zb::Cb::lb::e::ld::mc::f::g::Vb::Bd::i::Cc::j::k::m::o::p::q::r::s::t::u::w::x::y::z::A::B::C::D::E::F::G::H::K::L::M::N::O::P::Q::R::S::T::U::V::W::X::Y::Z::bb::Gb::gc::lc::rc::fd::id::md::nd::rd::wd::Fd::Id::be::ce::ge::ne::Ne::of::wf::If::dg::rg::bi::ci::ii::li::pi::Pi::dl::el::nl::ol::pl::ul::wl::am::em::hm::lm::sm::Nm::fn::on::l) (n+100) v (a::oa::b::c::d::a5::zb::Cb::lb::e::ld::mc::f::g::Vb::Bd::i::Cc::j::k::m::o::p::q::r::s::t::u::w::x::y::z::A::B::C::D::E::F::G::H::K::L::M::N::O::P::Q::R::S::T::U::V::W::X::Y::Z::bb::Gb::gc::lc::rc::fd::id::md::nd::rd::wd::Fd::Id::be::ce::ge::ne::Ne::of::wf::If::dg::rg::bi::ci::ii::li::pi::Pi::dl::el::nl::ol::pl::ul::wl::am::em::hm::lm::sm::Nm::fn::on::Ba):=by unfold Zb at *;subst h;rfl
open Go.RowKit
section
variable {P:Program}{Q:Exit->Act->World->Prop}{K:List Value->List Deferred->World->Prop}{fr Aa:List Value}{ds:List Deferred}{w:World}
variable {dst:Option Tmp}{ty:TypeId}{pos:String}{after:Array Edge}{g:Option (Nat×Bool)}
variable {S Ic:Nat->Prop}{da:World}{rs rs':List Ha}{A:World->Prop}
variable {T:TypeId}
inductive Hk:TypeDesc->Value->Prop where
 | str (l:List UInt8):Hk .string (Mc.S l)
 | int (k:IntKind) (n:Int):Hk (.int k) (.int k n)
def Xk:Value->Value->Bool
 | .string a,.string b=>decide (a.data.toList=b.data.toList)
 | .int _ a,.int _ b=>decide (a=b)
 | _,_=>false
def Fk (es:List MapEntry) (k:Value):Option (Nat×Value):=(es.zipIdx.find? λe=>Xk k e.1.key).map λe=>(e.2,e.1.val)
theorem vN {d:TypeDesc}{k:Value}(b:Hk d k):∀ (es:List MapEntry) (i:Nat),(∀ e ∈ es,Hk d e.key)->Instr.findNow d k es i=some (((es.zipIdx i).find? λe=>Xk k e.1.key).map λe=>(e.2,e.1.val)):=by
 intro es
 induction es with
 | nil=>intro i _; simp [Instr.findNow]
 | cons e es c =>
  intro i h;have a:=h e (by simp);have f:=c (i+1) λx g=>h x (by simp [g]);simp only [Instr.findNow,List.zipIdx_cons,List.find?_cons];have j:Instr.sameNow d k e.key=some (Xk k e.key):=by
   generalize e.key=k' at a;cases b with
   | str l =>
    cases a with
    | str Ba =>
     simp only [Instr.sameNow,Mc.S,Xk];congr 1;rw [Bool.eq_iff_iff,jE];simp
   | int kk n =>
    cases a with
    | int _ m =>
     simp only [Instr.sameNow,if_true,Xk];congr 1
  rw [j];cases o:Xk k e.key with
  | true=>simp
  | false=>exact f
theorem run_findKey {me:TypeId}{d:TypeDesc}{k:Value}{es:List MapEntry}(a:P.underlying me=some d) (b:Hk d k) (c:∀ e ∈ es,Hk d e.key):(Instr.findKey me k es).run P w=.ok (Fk es k) w:=by
 unfold Instr.findKey Fk;simp only [Sem.run_bind,run_underlying a,Result.andThen_ok,vN b es 0 c];rfl
theorem run_checkKey {me:TypeId}{d:TypeDesc}{k:Value}{b:Bool}(a:P.underlying me=some d) (c:Hk d k):(Instr.checkKey b 10000 me k).run P w=.ok () w:=by
 show (Instr.checkKey b (9999+1) me k).run P w=_;unfold Instr.checkKey;simp only [Sem.run_bind,run_underlying a,Result.andThen_ok];cases c<;>rfl
theorem tk (a:Sep S Ic da w rs A) (h:∀ b w',w.heap.size<=b->Sep S Ic da w' (.map b [] 0::rs) A->Rg fr dst (.map (some b)) λAa=>K Aa ds w'):yd P (Oper.mk dst (.makeMap T none) ty pos after g) fr ds w K Q:=by
 obtain ⟨Aa,Ea⟩:=Xi fr dst (.map (some w.heap.size));refine Qh (v:=.map (some w.heap.size)) (w':=w.alloc (.map #[] 0)) ?_ Ea<|h _ _ (Nat.le_refl _) (a.alloc rfl<|heap_alloc_new w _) Aa Ea;simp [execOp,Instr.makeMap]
def ql (es:List MapEntry) (k z:Value):Value:=(Fk es k).elim z (·.2)
def Gt (es:List MapEntry) (k:Value):Bool:=(Fk es k).isSome
def putAt (es:List MapEntry) (c:Nat) (k v:Value):List MapEntry:=match Fk es k with
 | some (i,_)=>es.modify i λe=>{ e with key:=k,val:=v }
 | none=>es++[{ key:=k,val:=v,born:=c }]
def Nj (es:List MapEntry) (c:Nat) (k:Value):Nat:=match Fk es k with
 | some _=>c
 | none=>c+1
theorem nD {es:List MapEntry}{k v:Value}{i:Nat}(h:Fk es k=some (i,v)):∃ e,es[i]?=some e/\Xk k e.key=true/\e.val=v:=by
 unfold Fk at h;cases a:es.zipIdx.find? λe=>Xk k e.1.key with
 | none=>rw [a] at h; cases h
 | some x =>
  rw [a] at h;simp only [Option.map_some,Option.some.injEq,Prod.mk.injEq] at h;obtain ⟨rfl,rfl⟩:=h;have b:=List.find?_some (p:=λe:MapEntry×Nat=>Xk k e.1.key) a;have c:=List.mem_of_find?_eq_some a;exact ⟨x.1,by have:=List.mem_zipIdx_iff_getElem?.1 c;simpa using this,b,rfl⟩
theorem zI {d:TypeDesc}{k k':Value}(b:Hk d k) (a:Hk d k') (h:Xk k k'=true):Instr.sameBits 10000 k' k=true:=by
 cases b with
 | str l =>
  cases a with
  | str Ba =>
   simp [Xk,Mc.S] at h;subst h;simp only [Instr.sameBits,Mc.S];exact (jE _ _).2 rfl
 | int kk n =>
  cases a with
  | int _ c =>
   simp [Xk] at h;subst h;simp [Instr.sameBits]
theorem dK {x y z:Operand}{me ba:TypeId}{d:TypeDesc}{kv v:Value}{b c k:Nat}{es:List MapEntry}(m:P.underlying T=some (.map me ba)) (n:P.underlying me=some d) (o:ab fr x (.map (some b))) (p:ab fr y kv) (a:Hk d kv) (q:ab fr z v)
  (r:Sep S Ic da w rs A) (ma:fc rs k (.map b es c)) (s:∀ e ∈ es,Hk d e.key)
  (Ea:Bf fr dst undef Aa) (h:∀ w' rs',Zb rs k (.map b (putAt es c kv v) (Nj es c kv)) rs'->Sep S Ic da w' rs' A->K Aa ds w'):yd P (Oper.mk dst (.mapUpdate T x y z) ty pos after g) fr ds w K Q:=by
 have f:w.heap[b]?=some (.map ⟨es⟩ c):=r.get ma;have D:b<w.heap.size:=(Array.getElem?_eq_some_iff.1 f).1
 let w':World:={ w with heap:=w.heap.setIfInBounds b (.map ⟨putAt es c kv v⟩ (Nj es c kv)) }
 have E:Yi (λk=>k≠b) w w':=⟨rfl,rfl,rfl,by simp [w'],λj _ F=>by simp [w',Array.getElem?_setIfInBounds,Ne.symm F]⟩;have G:=r.put (b:=b) (r':=.map b (putAt es c kv v) (Nj es c kv)) (w':=w') ma rfl rfl rfl (by show w'.heap[b]?=_;simp [w',D]) E;have t:=run_checkKey (P:=P) (w:=w) (b:=false) n a;have B:=run_findKey (P:=P) (w:=w) n a s;refine CB (w':=w') ?_ Ea<|h w' _ rfl G;cases l:Fk es kv with
 | none=>simp [execOp,o ds,p ds,q ds,Instr.mapUpdate,run_underlying m,getObj,setObj,Sem.run,f,Result.andThen,t,B,l,w',putAt,Nj]
 | some e =>
  obtain ⟨i,u⟩:=e;obtain ⟨e,C,H,-⟩:=nD l;have L:=zI a (s e (List.mem_of_getElem? C)) H;simp [execOp,o ds,p ds,q ds,Instr.mapUpdate,run_underlying m,getObj,setObj,Sem.run,f,Result.andThen,t,B,l,C,Instr.keyThatStays,L,w',putAt,Nj]
theorem yP {x:Operand}{me ba:TypeId}{m c k:Nat}{es:List MapEntry}(d:P.underlying T=some (.map me ba)) (e:ab fr x (.map (some m))) (a:Sep S Ic da w rs A) (ma:fc rs k (.map m es c))
  (h:∀ b w',w.heap.size<=b->Sep S Ic da w' (.qn b m c [] c::rs) A->Rg fr dst (.pointer (some ⟨b,0,none⟩)) λAa=>K Aa ds w'):yd P (Oper.mk dst (.range T x) ty pos after g) fr ds w K Q:=by
 have f:w.heap[m]?=some (.map ⟨es⟩ c):=a.get ma;obtain ⟨Aa,Ea⟩:=Xi fr dst (.pointer (some ⟨w.heap.size,0,none⟩));refine Qh (v:=.pointer (some ⟨w.heap.size,0,none⟩)) (w':=w.alloc (.mapIter (some m) c #[] c)) ?_ Ea<|h _ _ (Nat.le_refl _) (a.alloc rfl<|heap_alloc_new w _) Aa Ea;simp [execOp,e ds,Instr.range,run_underlying d,getObj,Sem.run,f,Result.andThen]
end
end Go.Mc
namespace Go.Kf
open Go.Mc Go.RowKit
section
variable {P:Program}{Q:Exit->Act->World->Prop}{K:List Value->List Deferred->World->Prop}{fr Aa:List Value}{ds:List Deferred}{w:World}
variable {dst:Option Tmp}{ty:TypeId}{pos:String}{after:Array Edge}{g:Option (Nat×Bool)}
variable {da:World}{rs rs':List Ha}{μ J:M}
variable {T:TypeId}{d:TypeDesc}{pc:Bool}{Dc:List Value}{n m:Nat}
theorem rJ {x y:Operand}{me ba:TypeId}{d:TypeDesc}{kv z:Value}{b c:Nat}{es:List MapEntry}(a:P.underlying T=some (.map me ba)) (f:P.underlying me=some d) (i:ab fr x (.map (some b))) (j:ab fr y kv) (k:Hk d kv)
  (p:∀ w,(zeroValue ba).run P w=.ok z w) (l:w.heap[b]?=some (.map ⟨es⟩ c)) (q:∀ e ∈ es,Hk d e.key)
  (r:Bf fr dst (ql es kv z) Aa) (h:K Aa ds w):yd P (Oper.mk dst (.lookup T x y false) ty pos after g) fr ds w K Q:=by
 refine Qh (w':=w) ?_ r h;have m:=run_checkKey (w:=w) (b:=es.isEmpty) f k;have n:=run_findKey (w:=w) f k q;cases o:Fk es kv with
 | none=>simp [execOp,i ds,j ds,Instr.lookup,run_underlying a,getObj,Sem.run,l,Result.andThen,m,n,o,p w,ql]
 | some e=>simp [execOp,i ds,j ds,Instr.lookup,run_underlying a,getObj,Sem.run,l,Result.andThen,m,n,o,ql]
theorem kE {x y:Operand}{me ba:TypeId}{d:TypeDesc}{kv z:Value}{b c:Nat}{es:List MapEntry}(a:P.underlying T=some (.map me ba)) (f:P.underlying me=some d) (i:ab fr x (.map (some b))) (j:ab fr y kv) (k:Hk d kv)
  (p:∀ w,(zeroValue ba).run P w=.ok z w) (l:w.heap[b]?=some (.map ⟨es⟩ c)) (q:∀ e ∈ es,Hk d e.key)
  (r:Bf fr dst (.tuple #[ql es kv z,.bool (Gt es kv)]) Aa) (h:K Aa ds w):yd P (Oper.mk dst (.lookup T x y true) ty pos after g) fr ds w K Q:=by
 refine Qh (w':=w) ?_ r h;have m:=run_checkKey (w:=w) (b:=es.isEmpty) f k;have n:=run_findKey (w:=w) f k q;cases o:Fk es kv with
 | none=>simp [execOp,i ds,j ds,Instr.lookup,run_underlying a,getObj,Sem.run,l,Result.andThen,m,n,o,p w,ql,Gt]
 | some e=>simp [execOp,i ds,j ds,Instr.lookup,run_underlying a,getObj,Sem.run,l,Result.andThen,m,n,o,ql,Gt]
class gb (κ:Type) [DecidableEq κ] where
 key:κ->Value
 bd:TypeDesc
 me:∀ k,Hk bd (key k)
 eq:∀ a b,Xk (key a) (key b)=decide (a=b)
instance:gb (List UInt8) where
 key:=S
 bd:=.string
 me:=.str
 eq a b:=by simp [Xk,S]
instance:gb Int where
 key n:=.int .i64 n
 bd:=.int .i64
 me:=.int .i64
 eq a b:=by simp [Xk]
class Lh (β:Type) where
 jj:M->Value->β->Prop
 up:∀ {μ J:M}{v:Value}{x:β},ha μ J->jj μ v x->jj J v x
instance:Lh Int where
 jj _ v x:=v=.int .i64 x
 up _ h:=h
def tu {α:Type}[Ma α] (μ:M) (v:Value) (x:α):Prop:=∃ cs,v=.agg ⟨cs⟩/\Ma.cs μ cs x
theorem tu.up {α:Type}[Ma α]{v:Value}{x:α}(l:ha μ J) (h:tu μ v x):tu J v x:=by
 obtain ⟨cs,a,b⟩:=h;exact ⟨cs,a,Ma.up l b⟩
def Ie {α:Type}[Ma α] (μ:M) (v:Value) (x:α):Prop:=∃ b o cs,v=.pointer (some ⟨b,o,none⟩)/\xa μ b o cs/\Ma.cs μ cs x
theorem Ie.up {α:Type}[Ma α]{v:Value}{x:α}(l:ha μ J) (h:Ie μ v x):Ie J v x:=by
 obtain ⟨b,o,cs,a,c,d⟩:=h;exact ⟨b,o,cs,a,c.up l,Ma.up l d⟩
def Df {α:Type}[Ma α] (μ:M) (v:Value):Option α->Prop
 | none=>v=.pointer none
 | some x=>Ie μ v x
theorem Df.up {α:Type}[Ma α]{v:Value}{x:Option α}(h:Df μ v x) (l:ha μ J):Df J v x:=by
 cases x with
 | none=>exact h
 | some x=>exact Ie.up l h
theorem Df.ee {α:Type}[Ma α]{v:Value}{x:Option α}(h:Df μ v x):ee v=true:=by
 cases x with
 | none=>rw [show v=.pointer none from h]; rfl
 | some x=>obtain ⟨b,o,cs,rfl,-⟩:=h; rfl
theorem Df.of {α:Type}[Ma α]{b o:Nat}{cs:List Value}{x:α}(h:xa μ b o cs) (k:Ma.cs μ cs x):Df μ (.pointer (some ⟨b,o,none⟩)) (some x):=⟨b,o,cs,rfl,h,k⟩
theorem Df.get {α:Type}[Ma α]{v:Value}{o:Option α}{x:α}(h:Df μ v o) (g:o=some x):∃ b o cs,v=.pointer (some ⟨b,o,none⟩)/\xa μ b o cs/\Ma.cs μ cs x:=by
 subst g;exact h
instance {α:Type}[Ma α]:Ma (Option α) where
 sz:=1
 pos:=by decide
 cs μ l x:=∃ v,l=[v]/\Df μ v x
 Uh h:=by obtain ⟨v,rfl,-⟩:=h;rfl
 up l h:=by obtain ⟨v,a,b⟩:=h;exact ⟨v,a,b.up l⟩
 pg h:=by obtain ⟨v,rfl,h⟩:=h;simp [h.ee]
def Oa {κ β:Type}[DecidableEq κ]:List (κ×β)->κ->Option β
 | [],_=>none
 | (a,b)::m,k=>if a=k then some b else Oa m k
def kd {κ β:Type}[DecidableEq κ]:List (κ×β)->κ->β->List (κ×β)
 | [],k,x=>[(k,x)]
 | (a,b)::m,k,x=>if a=k then (k,x)::m else (a,b)::kd m k x
def Ig {κ β:Type}[DecidableEq κ] [gb κ] [Lh β] (μ:M):List MapEntry->List (κ×β)->Prop
 | [],m=>m=[]
 | e::es,m=>∃ k x t,m=(k,x)::t/\e.key=gb.key k/\Lh.jj μ e.val x/\Ig μ es t
structure oe {κ β:Type}[DecidableEq κ] [gb κ] [Lh β] (μ:M) (es:List MapEntry) (c:Nat) (m:List (κ×β)):Prop where
 kv:Ig μ es m
 lt:∀ e ∈ es,e.born<c
 inc:es.Pairwise λa b=>a.born<b.born
variable {κ β:Type}[DecidableEq κ] [gb κ] [Lh β]
theorem Ig.up (l:ha μ J):∀ {es:List MapEntry}{m:List (κ×β)},Ig μ es m->Ig J es m
 | [],m,h=>by rw [Ig] at h ⊢; exact h
 | e::es,m,h=>by
  rw [Ig] at h ⊢;obtain ⟨k,x,t,a,b,c,d⟩:=h;exact ⟨k,x,t,a,b,Lh.up l c,Ig.up l d⟩
theorem oe.up {es:List MapEntry}{c:Nat}{m:List (κ×β)}(h:oe μ es c m) (l:ha μ J):oe J es c m:=⟨h.kv.up l,h.lt,h.inc⟩
theorem Ig.keys:∀ {es:List MapEntry}{m:List (κ×β)},Ig μ es m->∀ e ∈ es,Hk (gb.bd (κ:=κ)) e.key
 | [],m,_,e,he=>by cases he
 | e::es,m,h,a,he=>by
  rw [Ig] at h;obtain ⟨k,x,t,d,b,f,c⟩:=h;rcases List.mem_cons.1 he with rfl | he
  ·rw [b];exact gb.me k
  ·exact Ig.keys c a he
theorem Ig.len:∀ {es:List MapEntry}{m:List (κ×β)},Ig μ es m->es.length=m.length
 | [],m,h=>by rw [Ig] at h; simp [h]
 | e::es,m,h=>by
  rw [Ig] at h;obtain ⟨k,x,t,rfl,b,c,a⟩:=h;simp [Ig.len a]
def mm (kv:Value):List MapEntry->Option (Nat×Value)
 | []=>none
 | e::es=>if Xk kv e.key then some (0,e.val) else (mm kv es).map λp=>(p.1+1,p.2)
theorem sJ (kv:Value):∀ (es:List MapEntry) (i:Nat),(((es.zipIdx i).find? λe=>Xk kv e.1.key).map λe=>(e.2,e.1.val))=(mm kv es).map λp=>(p.1+i,p.2)
 | [],i=>rfl
 | e::es,i=>by
  rw [List.zipIdx_cons,List.find?_cons,mm];cases h:Xk kv e.key with
  | true=>simp
  | false =>
   simp only [Bool.false_eq_true,if_false];rw [sJ kv es (i+1),Option.map_map];congr 1;funext p;simp;omega
theorem Wx (es:List MapEntry) (kv:Value):Fk es kv=mm kv es:=by
 unfold Fk;rw [sJ];cases mm kv es<;>simp
theorem Ig.look:∀ {es:List MapEntry}{m:List (κ×β)},Ig μ es m->∀ k:κ,(match mm (gb.key k) es with | none=>Oa m k=none | some p=>∃ x,Oa m k=some x/\Lh.jj μ p.2 x)
 | [],m,h,k=>by rw [Ig] at h; subst h; rfl
 | e::es,m,h,k=>by
  rw [Ig] at h;obtain ⟨k',x,t,rfl,d,f,g⟩:=h;rw [mm,Oa,d,gb.eq];have a:=Ig.look g k;by_cases b:k=k'
  ·subst b;simp;exact f
  ·rw [if_neg (by simpa using b),if_neg (λe=>b e.symm)];cases c:mm (gb.key k) es with
   | none=>rw [c] at a; exact a
   | some p=>rw [c] at a; exact a
theorem Ig.get {es:List MapEntry}{m:List (κ×β)}(h:Ig μ es m) (k:κ){z:Value}{zx:β}(b:Lh.jj μ z zx):Lh.jj μ (ql es (gb.key k) z) ((Oa m k).getD zx):=by
 have:=h.look k;unfold ql;rw [Wx];cases a:mm (gb.key k) es with
 | none=>rw [a] at this; simp only at this; rw [this]; exact b
 | some p=>rw [a] at this; obtain ⟨x,c,d⟩:=this; rw [c]; exact d
theorem Ig.has {es:List MapEntry}{m:List (κ×β)}(h:Ig μ es m) (k:κ):Gt es (gb.key k)=(Oa m k).isSome:=by
 have:=h.look k;unfold Gt;rw [Wx];cases a:mm (gb.key k) es with
 | none=>rw [a] at this; simp only at this; rw [this]; rfl
 | some p=>rw [a] at this; obtain ⟨x,b,c⟩:=this; rw [b]; rfl
theorem Ig.put:∀ {es:List MapEntry}{m:List (κ×β)},Ig μ es m->∀ (k:κ){v:Value}{x:β},Lh.jj μ v x->∀ c,Ig μ (match mm (gb.key k) es with | some (i,_)=>es.modify i λe=>{ e with key:=gb.key k,val:=v } | none=>es++[{ key:=gb.key k,val:=v,born:=c }]) (kd m k x)
 | [],m,h,k,v,x,Pa,c=>by
  rw [Ig] at h;subst h;exact ⟨k,x,[],rfl,rfl,Pa,rfl⟩
 | e::es,m,h,k,v,x,Pa,c=>by
  rw [Ig] at h;obtain ⟨k',f,t,rfl,b,g,j⟩:=h;rw [mm,kd,b,gb.eq];have a:=Ig.put j k Pa c;by_cases d:k=k'
  ·subst d;simp;exact ⟨k,x,t,rfl,rfl,Pa,j⟩
  ·rw [if_neg (by simpa using d),if_neg (λe=>d e.symm)];cases l:mm (gb.key k) es with
   | none=>rw [l] at a; exact ⟨k',f,_,rfl,b,g,a⟩
   | some p=>rw [l] at a; exact ⟨k',f,_,rfl,b,g,a⟩
theorem oe.put {es:List MapEntry}{c:Nat}{m:List (κ×β)}(h:oe μ es c m) (k:κ){v:Value}{x:β}(Pa:Lh.jj μ v x):oe μ (putAt es c (gb.key k) v) (Nj es c (gb.key k)) (kd m k x):=by
 have f:=h.kv.put k Pa c;have ua:∀ i,(es.modify i λe=>{ e with key:=gb.key k,val:=v }).map (·.born)=es.map (·.born):=by
  intro i;refine List.ext_getElem (by simp) λj y z=>?_;simp only [List.getElem_map,List.getElem_modify];split<;>rfl
 have o:∀ l:List MapEntry,l.map (·.born)=es.map (·.born)->∀ e ∈ l,e.born<c:=λl ma e d=>by
  have q:e.born ∈ es.map (·.born):=ma ▸ List.mem_map_of_mem d;obtain ⟨r,s,g⟩:=List.mem_map.1 q;rw [<- g];exact h.lt r s
 have t:∀ l:List MapEntry,l.map (·.born)=es.map (·.born)->l.Pairwise λa b=>a.born<b.born:=λl ma=>by
  have:(es.map (·.born)).Pairwise (·<·):=List.pairwise_map.2 h.inc;rw [<- ma] at this;exact List.pairwise_map.1 this
 unfold putAt Nj;rw [Wx];cases n:mm (gb.key k) es with
 | some p =>
  obtain ⟨i,u⟩:=p;rw [n] at f;exact ⟨f,o _<|ua i,t _<|ua i⟩
 | none =>
  rw [n] at f;refine ⟨f,λe d=>?_,?_⟩
  ·rcases List.mem_append.1 d with d | d
   ·exact Nat.lt_succ_of_lt<|h.lt e d
   ·simp at d;subst d;exact Nat.lt_succ_self _
  ·rw [List.pairwise_append];refine ⟨h.inc,by simp,λa w b g=>?_⟩;simp at g;subst g;exact h.lt a w
theorem oe.nil {c:Nat}:oe (κ:=κ) (β:=β) μ [] c []:=⟨rfl,by simp,by simp⟩
def Vf (μ:M) (b:Nat) (m:List (κ×β)):Prop:=∃ es c,(∀ w,μ w->w.heap[b]?=some (.map ⟨es⟩ c))/\oe μ es c m
theorem Vf.up {b:Nat}{m:List (κ×β)}(h:Vf μ b m) (l:ha μ J):Vf J b m:=by
 obtain ⟨es,c,a,d⟩:=h;exact ⟨es,c,λw e=>a w<|l w e,d.up l⟩
theorem _root_.Go.Mc.Sep.Bm {b c:Nat}{es:List MapEntry}{m:List (κ×β)}(h:fa μ da w (.map b es c::rs)) (d:oe μ es c m):∃ J,ha μ J/\Vf J b m/\fa J da w rs :=
 ⟨_,λ_ a=>a.1,⟨es,c,λ_ a=>a.2,d.up λ_ a=>a.1⟩,Sep.dC (B:=λw=>w.heap[b]?=some (.map ⟨es⟩ c)) h λ_ a=>a⟩
theorem tJ {x y:Operand}{me ba:TypeId}{z:Value}{b c:Nat}{es:List MapEntry}{m:List (κ×β)}{k:κ}{zx:β}(d:P.underlying T=some (.map me ba)) (e:P.underlying me=some (gb.bd (κ:=κ))) (f:ab fr x (.map (some b))) (i:ab fr y (gb.key k))
  (j:∀ w,(zeroValue ba).run P w=.ok z w) (l:Lh.jj μ z zx) (n:w.heap[b]?=some (.map ⟨es⟩ c)) (a:oe μ es c m)
  (h:∀ v,Lh.jj μ v ((Oa m k).getD zx)->Rg fr dst (.tuple #[v,.bool (Oa m k).isSome]) λAa=>K Aa ds w):yd P (Oper.mk dst (.lookup T x y true) ty pos after g) fr ds w K Q:=by
 obtain ⟨Aa,Ea⟩:=Xi fr dst (.tuple #[ql es (gb.key k) z,.bool (Gt es (gb.key k))]);refine kE d e f i (gb.me k) j n a.kv.keys Ea ?_;rw [a.kv.has k] at Ea;exact h _ (a.kv.get k l) Aa Ea
theorem Ln {x y:Operand}{me ba:TypeId}{z:Value}{b c:Nat}{es:List MapEntry}{m:List (κ×β)}{k:κ}{zx:β}(d:P.underlying T=some (.map me ba)) (e:P.underlying me=some (gb.bd (κ:=κ))) (f:ab fr x (.map (some b))) (i:ab fr y (gb.key k))
  (j:∀ w,(zeroValue ba).run P w=.ok z w) (l:Lh.jj μ z zx) (n:w.heap[b]?=some (.map ⟨es⟩ c)) (a:oe μ es c m)
  (h:∀ v,Lh.jj μ v ((Oa m k).getD zx)->Rg fr dst v λAa=>K Aa ds w):yd P (Oper.mk dst (.lookup T x y false) ty pos after g) fr ds w K Q:=by
 obtain ⟨Aa,Ea⟩:=Xi fr dst (ql es (gb.key k) z);refine rJ d e f i (gb.me k) j n a.kv.keys Ea ?_;exact h _ (a.kv.get k l) Aa Ea
theorem Ig.qL {α:Type}[Ma α] [Lh α] (hrv:∀ (v:Value) (x:α),Lh.jj μ v x->Ie μ v x){es:List MapEntry}{m:List (κ×α)}(h:Ig μ es m) (k:κ):Df μ (ql es (gb.key k) (.pointer none)) (Oa m k):=by
 have:=h.look k;unfold ql;rw [Wx];cases a:mm (gb.key k) es with
 | none=>rw [a] at this; simp only at this; rw [this]; rfl
 | some p=>rw [a] at this; obtain ⟨x,b,c⟩:=this; rw [b]; exact hrv _ _ c
theorem VI {α:Type}[Ma α] [Lh α] (hrv:∀ (v:Value) (x:α),Lh.jj μ v x->Ie μ v x){x y:Operand}{me ba:TypeId}{b c:Nat}{es:List MapEntry}{m:List (κ×α)}{k:κ}(d:P.underlying T=some (.map me ba)) (e:P.underlying me=some (gb.bd (κ:=κ))) (f:ab fr x (.map (some b))) (i:ab fr y (gb.key k))
  (j:∀ w,(zeroValue ba).run P w=.ok (.pointer none) w) (l:w.heap[b]?=some (.map ⟨es⟩ c)) (a:oe μ es c m)
  (h:∀ v,Df μ v (Oa m k)->Rg fr dst (.tuple #[v,.bool (Oa m k).isSome]) λAa=>K Aa ds w):yd P (Oper.mk dst (.lookup T x y true) ty pos after g) fr ds w K Q:=by
 obtain ⟨Aa,Ea⟩:=Xi fr dst (.tuple #[ql es (gb.key k) (.pointer none),.bool (Gt es (gb.key k))]);refine kE d e f i (gb.me k) j l a.kv.keys Ea ?_;rw [a.kv.has k] at Ea;exact h _ (a.kv.qL hrv k) Aa Ea
theorem ay {α:Type}[Ma α] [Lh α] (hrv:∀ (v:Value) (x:α),Lh.jj μ v x->Ie μ v x){x y:Operand}{me ba:TypeId}{b c:Nat}{es:List MapEntry}{m:List (κ×α)}{k:κ}(d:P.underlying T=some (.map me ba)) (e:P.underlying me=some (gb.bd (κ:=κ))) (f:ab fr x (.map (some b))) (i:ab fr y (gb.key k))
  (j:∀ w,(zeroValue ba).run P w=.ok (.pointer none) w) (l:w.heap[b]?=some (.map ⟨es⟩ c)) (a:oe μ es c m)
  (h:∀ v,Df μ v (Oa m k)->Rg fr dst v λAa=>K Aa ds w):yd P (Oper.mk dst (.lookup T x y false) ty pos after g) fr ds w K Q:=by
 obtain ⟨Aa,Ea⟩:=Xi fr dst (ql es (gb.key k) (.pointer none));refine rJ d e f i (gb.me k) j l a.kv.keys Ea ?_;exact h _ (a.kv.qL hrv k) Aa Ea
theorem Ht {ba:TypeId}{z:Value}(h:(P.info? ba).map (λi=>i.zero)=some (some z)):∀ w,(zeroValue ba).run P w=.ok z w:=λw=>by
 cases a:P.info? ba with
 | none=>rw [a] at h; cases h
 | some i =>
  rw [a] at h;simp only [Option.map_some,Option.some.injEq] at h;simp [zeroValue,typeInfo,a,h]
theorem rr {x y z:Operand}{me ba:TypeId}{v:Value}{b c k:Nat}{es:List MapEntry}{kk:κ}{m:List (κ×β)}{xx:β}(e:P.underlying T=some (.map me ba)) (f:P.underlying me=some (gb.bd (κ:=κ))) (i:ab fr x (.map (some b))) (j:ab fr y (gb.key kk)) (l:ab fr z v) (Pa:Lh.jj μ v xx)
  (n:fa μ da w rs) (ma:fc rs k (.map b es c)) (a:oe μ es c m)
  (Ea:Bf fr dst undef Aa) (h:∀ d c' w' rs',oe μ d c' (kd m kk xx)->Zb rs k (.map b d c') rs'->fa μ da w' rs'->K Aa ds w'):yd P (Oper.mk dst (.mapUpdate T x y z) ty pos after g) fr ds w K Q :=
 dK e f i j (gb.me kk) l n ma a.kv.keys Ea λw' rs'=>h _ _ w' rs' (a.put kk Pa)
theorem zm {x y z:Operand}{me ba:TypeId}{v:Value}{b c k:Nat}{es:List MapEntry}{kk:κ}{m:List (κ×β)}{xx:β}(d:P.underlying T=some (.map me ba)) (e:P.underlying me=some (gb.bd (κ:=κ))) (f:ab fr x (.map (some b))) (i:ab fr y (gb.key kk)) (j:ab fr z v) (Pa:Lh.jj μ v xx)
  (l:fa μ da w rs) (ma:fc rs k (.map b es c)) (n:oe μ es c m)
  (Ea:Bf fr dst undef Aa) (h:∀ a c' w' rs',oe μ a c' (kd m kk xx)->Zb rs k (.map b a c') rs'->fa μ da w' rs'->K Aa ds w'):yd P (Oper.mk dst (.insert T x y z) ty pos after g) fr ds w K Q :=
 ⟨λo p=>(rr (dst:=dst) (ty:=ty) (pos:=pos) (after:=after) (g:=g) d e f i j Pa l ma n Ea h).out o p⟩
theorem eK {x:Operand}{me ba:TypeId}{b c:Nat}{es:List MapEntry}{m:List (κ×β)}(a:P.underlying T=some (.map me ba)) (d:ab fr x (.map (some b))) (e:w.heap[b]?=some (.map ⟨es⟩ c)) (f:oe μ es c m)
  (i:Bf fr dst (.int .i64 m.length) Aa) (h:K Aa ds w):yd P (Oper.mk dst (.call { callee:=.builtin .len,args:=#[x],argTypes:=#[T] }) ty pos after g) fr ds w K Q:=by
 refine Qh (w':=w) ?_ i h;have:=f.kv.len;simp [execOp,resolve,invoke,builtin,Builtin.len_,goInt,d ds,run_underlying a,getObj,Sem.run,e,Result.andThen,this]
end
end Go.Kf
namespace Go.Mc
abbrev hh (m:List gb):List gb:=.k::m
abbrev Rc (s:Nat) (m:List gb):List gb:=.o s::m
theorem Cp {m:List gb}{a:Value}{l Ba:List Value}(h:We m l Ba):We (hh m) (a::l) (a::Ba):=(.k h)
theorem Aq {m:List gb}{s:Nat}{a b:Value}{l Ba:List Value}(h:We m l Ba):We (Rc s m) (a::l) (b::Ba):=(.o h)
theorem SG {t:Nat->Value}{m:List gb}{a:Value}{l Ba:List Value}(h:Jf t m l Ba):Jf t (hh m) (a::l) (a::Ba):=(mk h)
theorem eC {t:Nat->Value}{m:List gb}{s:Nat}{a:Value}{l Ba:List Value}(h:Jf t m l Ba):Jf t (Rc s m) (a::l) (t s::Ba):=(nb h)
abbrev bf (m:List gb):List gb:=.k::.k::m
abbrev Cg (s:Nat) (m:List gb):List gb:=.o s::.o (s+1)::m
theorem rn {m:List gb}{a oa:Value}{l Ba:List Value}(h:We m l Ba):We (bf m) (a::oa::l) (a::oa::Ba):=(.k (.k h))
theorem fC {m:List gb}{s:Nat}{a oa b ka:Value}{l Ba:List Value}(h:We m l Ba):We (Cg s m) (a::oa::l) (b::ka::Ba):=(.o (.o h))
theorem JL {t:Nat->Value}{m:List gb}{a oa:Value}{l Ba:List Value}(h:Jf t m l Ba):Jf t (bf m) (a::oa::l) (a::oa::Ba):=(mk (mk h))
theorem xW {t:Nat->Value}{m:List gb}{s:Nat}{a oa:Value}{l Ba:List Value}(h:Jf t m l Ba):Jf t (Cg s m) (a::oa::l) (t s::t (s+1)::Ba):=(nb (nb h))
abbrev qh (m:List gb):List gb:=.k::.k::.k::m
abbrev vj (s:Nat) (m:List gb):List gb:=.o s::.o (s+1)::.o (s+2)::m
theorem Qw {m:List gb}{a oa b:Value}{l Ba:List Value}(h:We m l Ba):We (qh m) (a::oa::b::l) (a::oa::b::Ba):=(.k (.k (.k h)))
theorem ov {m:List gb}{s:Nat}{a oa b c ka ad:Value}{l Ba:List Value}(h:We m l Ba):We (vj s m) (a::oa::b::l) (c::ka::ad::Ba):=(.o (.o (.o h)))
theorem KL {t:Nat->Value}{m:List gb}{a oa b:Value}{l Ba:List Value}(h:Jf t m l Ba):Jf t (qh m) (a::oa::b::l) (a::oa::b::Ba):=(mk (mk (mk h)))
theorem gC {t:Nat->Value}{m:List gb}{s:Nat}{a oa b:Value}{l Ba:List Value}(h:Jf t m l Ba):Jf t (vj s m) (a::oa::b::l) (t s::t (s+1)::t (s+2)::Ba):=(nb (nb (nb h)))
abbrev Eg (m:List gb):List gb:=.k::.k::.k::.k::m
abbrev ni (s:Nat) (m:List gb):List gb:=.o s::.o (s+1)::.o (s+2)::.o (s+3)::m
theorem yW {m:List gb}{a oa b c:Value}{l Ba:List Value}(h:We m l Ba):We (Eg m) (a::oa::b::c::l) (a::oa::b::c::Ba):=(.k (.k (.k (.k h))))
theorem Bq {m:List gb}{s:Nat}{a oa b c d ka ad Ua:Value}{l Ba:List Value}(h:We m l Ba):We (ni s m) (a::oa::b::c::l) (d::ka::ad::Ua::Ba):=(.o (.o (.o (.o h))))
theorem zW {t:Nat->Value}{m:List gb}{a oa b c:Value}{l Ba:List Value}(h:Jf t m l Ba):Jf t (Eg m) (a::oa::b::c::l) (a::oa::b::c::Ba):=(mk (mk (mk (mk h))))
theorem LL {t:Nat->Value}{m:List gb}{s:Nat}{a oa b c:Value}{l Ba:List Value}(h:Jf t m l Ba):Jf t (ni s m) (a::oa::b::c::l) (t s::t (s+1)::t (s+2)::t (s+3)::Ba):=(nb (nb (nb (nb h))))
abbrev wg (m:List gb):List gb:=.k::.k::.k::.k::.k::m
abbrev Cq (s:Nat) (m:List gb):List gb:=.o s::.o (s+1)::.o (s+2)::.o (s+3)::.o (s+4)::m
theorem Jo {m:List gb}{a oa b c d:Value}{l Ba:List Value}(h:We m l Ba):We (wg m) (a::oa::b::c::d::l) (a::oa::b::c::d::Ba):=(.k (.k (.k (.k (.k h)))))
theorem TG {t:Nat->Value}{m:List gb}{a oa b c d:Value}{l Ba:List Value}(h:Jf t m l Ba):Jf t (wg m) (a::oa::b::c::d::l) (a::oa::b::c::d::Ba):=(mk (mk (mk (mk (mk h)))))
theorem AW {t:Nat->Value}{m:List gb}{s:Nat}{a oa b c d:Value}{l Ba:List Value}(h:Jf t m l Ba):Jf t (Cq s m) (a::oa::b::c::d::l) (t s::t (s+1)::t (s+2)::t (s+3)::t (s+4)::Ba):=(nb (nb (nb (nb (nb h)))))
abbrev hj (m:List gb):List gb:=.k::.k::.k::.k::.k::.k::m
abbrev Rm (s:Nat) (m:List gb):List gb:=.o s::.o (s+1)::.o (s+2)::.o (s+3)::.o (s+4)::.o (s+5)::m
theorem Rw {m:List gb}{a oa b c d a5:Value}{l Ba:List Value}(h:We m l Ba):We (hj m) (a::oa::b::c::d::a5::l) (a::oa::b::c::d::a5::Ba):=(.k (.k (.k (.k (.k (.k h))))))
theorem BW {t:Nat->Value}{m:List gb}{a oa b c d a5:Value}{l Ba:List Value}(h:Jf t m l Ba):Jf t (hj m) (a::oa::b::c::d::a5::l) (a::oa::b::c::d::a5::Ba):=(mk (mk (mk (mk (mk (mk h))))))
abbrev ui (m:List gb):List gb:=.k::.k::.k::.k::.k::.k::.k::m
abbrev nm (s:Nat) (m:List gb):List gb:=.o s::.o (s+1)::.o (s+2)::.o (s+3)::.o (s+4)::.o (s+5)::.o (s+6)::m
theorem UG {m:List gb}{a oa b c d a5 zb:Value}{l Ba:List Value}(h:We m l Ba):We (ui m) (a::oa::b::c::d::a5::zb::l) (a::oa::b::c::d::a5::zb::Ba):=(.k (.k (.k (.k (.k (.k (.k h)))))))
theorem bz {t:Nat->Value}{m:List gb}{a oa b c d a5 zb:Value}{l Ba:List Value}(h:Jf t m l Ba):Jf t (ui m) (a::oa::b::c::d::a5::zb::l) (a::oa::b::c::d::a5::zb::Ba):=(mk (mk (mk (mk (mk (mk (mk h)))))))
theorem CW {t:Nat->Value}{m:List gb}{s:Nat}{a oa b c d a5 zb:Value}{l Ba:List Value}(h:Jf t m l Ba):Jf t (nm s m) (a::oa::b::c::d::a5::zb::l) (t s::t (s+1)::t (s+2)::t (s+3)::t (s+4)::t (s+5)::t (s+6)::Ba):=(nb (nb (nb (nb (nb (nb (nb h)))))))
abbrev Yk (m:List gb):List gb:=.k::.k::.k::.k::.k::.k::.k::.k::m
abbrev Zk (s:Nat) (m:List gb):List gb:=.o s::.o (s+1)::.o (s+2)::.o (s+3)::.o (s+4)::.o (s+5)::.o (s+6)::.o (s+7)::m
theorem hC {m:List gb}{s:Nat}{a oa b c d a5 zb Cb e ka ad Ua Wf Lf Tf ie:Value}{l Ba:List Value}(h:We m l Ba):We (Zk s m) (a::oa::b::c::d::a5::zb::Cb::l) (e::ka::ad::Ua::Wf::Lf::Tf::ie::Ba):=(.o (.o (.o (.o (.o (.o (.o (.o h))))))))
theorem iC {t:Nat->Value}{m:List gb}{s:Nat}{a oa b c d a5 zb Cb:Value}{l Ba:List Value}(h:Jf t m l Ba):Jf t (Zk s m) (a::oa::b::c::d::a5::zb::Cb::l) (t s::t (s+1)::t (s+2)::t (s+3)::t (s+4)::t (s+5)::t (s+6)::t (s+7)::Ba):=(nb (nb (nb (nb (nb (nb (nb (nb h))))))))
abbrev Qj (m:List gb):List gb:=.k::.k::.k::.k::.k::.k::.k::.k::.k::m
abbrev Wn (s:Nat) (m:List gb):List gb:=.o s::.o (s+1)::.o (s+2)::.o (s+3)::.o (s+4)::.o (s+5)::.o (s+6)::.o (s+7)::.o (s+8)::m
theorem ML {m:List gb}{a oa b c d a5 zb Cb lb:Value}{l Ba:List Value}(h:We m l Ba):We (Qj m) (a::oa::b::c::d::a5::zb::Cb::lb::l) (a::oa::b::c::d::a5::zb::Cb::lb::Ba):=(.k (.k (.k (.k (.k (.k (.k (.k (.k h)))))))))
theorem cz {m:List gb}{s:Nat}{a oa b c d a5 zb Cb lb e ka ad Ua Wf Lf Tf ie xf:Value}{l Ba:List Value}(h:We m l Ba):We (Wn s m) (a::oa::b::c::d::a5::zb::Cb::lb::l) (e::ka::ad::Ua::Wf::Lf::Tf::ie::xf::Ba):=(.o (.o (.o (.o (.o (.o (.o (.o (.o h)))))))))
theorem NL {t:Nat->Value}{m:List gb}{a oa b c d a5 zb Cb lb:Value}{l Ba:List Value}(h:Jf t m l Ba):Jf t (Qj m) (a::oa::b::c::d::a5::zb::Cb::lb::l) (a::oa::b::c::d::a5::zb::Cb::lb::Ba):=(mk (mk (mk (mk (mk (mk (mk (mk (mk h)))))))))
theorem OL {t:Nat->Value}{m:List gb}{s:Nat}{a oa b c d a5 zb Cb lb:Value}{l Ba:List Value}(h:Jf t m l Ba):Jf t (Wn s m) (a::oa::b::c::d::a5::zb::Cb::lb::l) (t s::t (s+1)::t (s+2)::t (s+3)::t (s+4)::t (s+5)::t (s+6)::t (s+7)::t (s+8)::Ba):=(nb (nb (nb (nb (nb (nb (nb (nb (nb h)))))))))
abbrev Pd (m:List gb):List gb:=.k::.k::.k::.k::.k::.k::.k::.k::.k::.k::m
abbrev Zc (s:Nat) (m:List gb):List gb:=.o s::.o (s+1)::.o (s+2)::.o (s+3)::.o (s+4)::.o (s+5)::.o (s+6)::.o (s+7)::.o (s+8)::.o (s+9)::m
theorem Ik {m:List gb}{a oa b c d a5 zb Cb lb e:Value}{l Ba:List Value}(h:We m l Ba):We (Pd m) (a::oa::b::c::d::a5::zb::Cb::lb::e::l) (a::oa::b::c::d::a5::zb::Cb::lb::e::Ba):=(.k (.k (.k (.k (.k (.k (.k (.k (.k (.k h))))))))))
theorem ln {m:List gb}{s:Nat}{a oa b c d a5 zb Cb lb e f ka ad Ua Wf Lf Tf ie xf Kc:Value}{l Ba:List Value}(h:We m l Ba):We (Zc s m) (a::oa::b::c::d::a5::zb::Cb::lb::e::l) (f::ka::ad::Ua::Wf::Lf::Tf::ie::xf::Kc::Ba):=(.o (.o (.o (.o (.o (.o (.o (.o (.o (.o h))))))))))
theorem St {t:Nat->Value}{m:List gb}{a oa b c d a5 zb Cb lb e:Value}{l Ba:List Value}(h:Jf t m l Ba):Jf t (Pd m) (a::oa::b::c::d::a5::zb::Cb::lb::e::l) (a::oa::b::c::d::a5::zb::Cb::lb::e::Ba):=(mk (mk (mk (mk (mk (mk (mk (mk (mk (mk h))))))))))
theorem Er {t:Nat->Value}{m:List gb}{s:Nat}{a oa b c d a5 zb Cb lb e:Value}{l Ba:List Value}(h:Jf t m l Ba):Jf t (Zc s m) (a::oa::b::c::d::a5::zb::Cb::lb::e::l) (t s::t (s+1)::t (s+2)::t (s+3)::t (s+4)::t (s+5)::t (s+6)::t (s+7)::t (s+8)::t (s+9)::Ba):=(nb (nb (nb (nb (nb (nb (nb (nb (nb (nb h))))))))))
abbrev Vc (m:List gb):List gb:=.k::.k::.k::.k::.k::.k::.k::.k::.k::.k::.k::.k::.k::.k::.k::.k::.k::.k::.k::.k::m
abbrev ag (s:Nat) (m:List gb):List gb:=.o s::.o (s+1)::.o (s+2)::.o (s+3)::.o (s+4)::.o (s+5)::.o (s+6)::.o (s+7)::.o (s+8)::.o (s+9)::.o (s+10)::.o (s+11)::.o (s+12)::.o (s+13)::.o (s+14)::.o (s+15)::.o (s+16)::.o (s+17)::.o (s+18)::.o (s+19)::m
theorem dm {m:List gb}{a oa b c d a5 zb Cb lb e ld mc f g Vb Bd i Cc j n:Value}{l Ba:List Value}(h:We m l Ba):We (Vc m) (a::oa::b::c::d::a5::zb::Cb::lb::e::ld::mc::f::g::Vb::Bd::i::Cc::j::n::l) (a::oa::b::c::d::a5::zb::Cb::lb::e::ld::mc::f::g::Vb::Bd::i::Cc::j::n::Ba):=(.k (.k (.k (.k (.k (.k (.k (.k (.k (.k (.k (.k (.k (.k (.k (.k (.k (.k (.k (.k h))))))))))))))))))))
theorem xp {t:Nat->Value}{m:List gb}{a oa b c d a5 zb Cb lb e ld mc f g Vb Bd i Cc j k:Value}{l Ba:List Value}(h:Jf t m l Ba):Jf t (Vc m) (a::oa::b::c::d::a5::zb::Cb::lb::e::ld::mc::f::g::Vb::Bd::i::Cc::j::k::l) (a::oa::b::c::d::a5::zb::Cb::lb::e::ld::mc::f::g::Vb::Bd::i::Cc::j::k::Ba):=(mk (mk (mk (mk (mk (mk (mk (mk (mk (mk (mk (mk (mk (mk (mk (mk (mk (mk (mk (mk h))))))))))))))))))))
theorem ZV {t:Nat->Value}{m:List gb}{s:Nat}{a oa b c d a5 zb Cb lb e ld mc f g Vb Bd i Cc j k:Value}{l Ba:List Value}(h:Jf t m l Ba):Jf t (ag s m) (a::oa::b::c::d::a5::zb::Cb::lb::e::ld::mc::f::g::Vb::Bd::i::Cc::j::k::l) (t s::t (s+1)::t (s+2)::t (s+3)::t (s+4)::t (s+5)::t (s+6)::t (s+7)::t (s+8)::t (s+9)::t (s+10)::t (s+11)::t (s+12)::t (s+13)::t (s+14)::t (s+15)::t (s+16)::t (s+17)::t (s+18)::t (s+19)::Ba):=(nb (nb (nb (nb (nb (nb (nb (nb (nb (nb (nb (nb (nb (nb (nb (nb (nb (nb (nb (nb h))))))))))))))))))))
abbrev Te (m:List gb):List gb:=.k::.k::.k::.k::.k::.k::.k::.k::.k::.k::.k::.k::.k::.k::.k::.k::.k::.k::.k::.k::.k::.k::.k::.k::.k::.k::.k::.k::.k::.k::.k::.k::.k::.k::.k::.k::.k::.k::.k::.k::.k::.k::.k::.k::.k::.k::.k::.k::.k::.k::m
abbrev rj (s:Nat) (m:List gb):List gb:=.o s::.o (s+1)::.o (s+2)::.o (s+3)::.o (s+4)::.o (s+5)::.o (s+6)::.o (s+7)::.o (s+8)::.o (s+9)::.o (s+10)::.o (s+11)::.o (s+12)::.o (s+13)::.o (s+14)::.o (s+15)::.o (s+16)::.o (s+17)::.o (s+18)::.o (s+19)::.o (s+20)::.o (s+21)::.o (s+22)::.o (s+23)::.o (s+24)::.o (s+25)::.o (s+26)::.o (s+27)::.o (s+28)::.o (s+29)::.o (s+30)::.o (s+31)::.o (s+32)::.o (s+33)::.o (s+34)::.o (s+35)::.o (s+36)::.o (s+37)::.o (s+38)::.o (s+39)::.o (s+40)::.o (s+41)::.o (s+42)::.o (s+43)::.o (s+44)::.o (s+45)::.o (s+46)::.o (s+47)::.o (s+48)::.o (s+49)::m
theorem fm {m:List gb}{a oa b c d a5 zb Cb lb e ld mc f g Vb Bd i Cc j n o p q r s t u v w x y z A B C D E F G H K L M N O P Q R S T:Value}{l Ba:List Value}(h:We m l Ba):We (Te m) (a::oa::b::c::d::a5::zb::Cb::lb::e::ld::mc::f::g::Vb::Bd::i::Cc::j::n::o::p::q::r::s::t::u::v::w::x::y::z::A::B::C::D::E::F::G::H::K::L::M::N::O::P::Q::R::S::T::l) (a::oa::b::c::d::a5::zb::Cb::lb::e::ld::mc::f::g::Vb::Bd::i::Cc::j::n::o::p::q::r::s::t::u::v::w::x::y::z::A::B::C::D::E::F::G::H::K::L::M::N::O::P::Q::R::S::T::Ba):=(.k (.k (.k (.k (.k (.k (.k (.k (.k (.k (.k (.k (.k (.k (.k (.k (.k (.k (.k (.k (.k (.k (.k (.k (.k (.k (.k (.k (.k (.k (.k (.k (.k (.k (.k (.k (.k (.k (.k (.k (.k (.k (.k (.k (.k (.k (.k (.k (.k (.k h))))))))))))))))))))))))))))))))))))))))))))))))))
theorem FB {m:List gb}{s:Nat}{a oa b c d a5 zb Cb lb e ld mc f g Vb Bd i Cc j k n p q r t u v w x y z A B C D E F G H K L M N O P Q R S T U V ka ad Ua Wf Lf Tf ie xf Kc rh W Cd Fg X Y Z bb Gb ng gc zl lc rc Vg fd id md nd rd wd xg Fd Id be ce ge ne Ne of wf If dg rg bi ci ii li pi Pi:Value}{l Ba:List Value}(h:We m l Ba):We (rj s m) (a::oa::b::c::d::a5::zb::Cb::lb::e::ld::mc::f::g::Vb::Bd::i::Cc::j::k::n::p::q::r::t::u::v::w::x::y::z::A::B::C::D::E::F::G::H::K::L::M::N::O::P::Q::R::S::T::U::l) (V::ka::ad::Ua::Wf::Lf::Tf::ie::xf::Kc::rh::W::Cd::Fg::X::Y::Z::bb::Gb::ng::gc::zl::lc::rc::Vg::fd::id::md::nd::rd::wd::xg::Fd::Id::be::ce::ge::ne::Ne::of::wf::If::dg::rg::bi::ci::ii::li::pi::Pi::Ba):=(.o (.o (.o (.o (.o (.o (.o (.o (.o (.o (.o (.o (.o (.o (.o (.o (.o (.o (.o (.o (.o (.o (.o (.o (.o (.o (.o (.o (.o (.o (.o (.o (.o (.o (.o (.o (.o (.o (.o (.o (.o (.o (.o (.o (.o (.o (.o (.o (.o (.o h))))))))))))))))))))))))))))))))))))))))))))))))))
theorem GB {t:Nat->Value}{m:List gb}{a oa b c d a5 zb Cb lb e ld mc f g Vb Bd i Cc j k n o p q r s u v w x y z A B C D E F G H K L M N O P Q R S T:Value}{l Ba:List Value}(h:Jf t m l Ba):Jf t (Te m) (a::oa::b::c::d::a5::zb::Cb::lb::e::ld::mc::f::g::Vb::Bd::i::Cc::j::k::n::o::p::q::r::s::u::v::w::x::y::z::A::B::C::D::E::F::G::H::K::L::M::N::O::P::Q::R::S::T::l) (a::oa::b::c::d::a5::zb::Cb::lb::e::ld::mc::f::g::Vb::Bd::i::Cc::j::k::n::o::p::q::r::s::u::v::w::x::y::z::A::B::C::D::E::F::G::H::K::L::M::N::O::P::Q::R::S::T::Ba):=(mk (mk (mk (mk (mk (mk (mk (mk (mk (mk (mk (mk (mk (mk (mk (mk (mk (mk (mk (mk (mk (mk (mk (mk (mk (mk (mk (mk (mk (mk (mk (mk (mk (mk (mk (mk (mk (mk (mk (mk (mk (mk (mk (mk (mk (mk (mk (mk (mk (mk h))))))))))))))))))))))))))))))))))))))))))))))))))
theorem Gh {m:List gb}{v a:Value}{l Ba:List Value}(h:We m l Ba):We (.i v::m) (a::l) (v::Ba):=.i h
theorem Uj {l:List Value}:We [] l l:=.z
section
open Go.RowKit
section
variable {P:Program}{Q:Exit->Act->World->Prop}{ops:Array Oper}{fr Aa:List Value}{ds:List Deferred}{w:World}
theorem QC (ops:Array Oper) (fr:List Value) (ds:List Deferred) (j:Nat):yielded ops (F fr ds).tmps j=match (ops[j]?).bind (·.dst) with | some s=>(match (F fr ds).eval (.tmp s) with | .bool b=>some b | _=>none) | none=>none:=by
 unfold yielded;cases h:(ops[j]?).bind (·.dst) with
 | none=>simp
 | some s =>
  simp only [Option.bind_some,F,Act.eval];cases a:(⟨fr⟩:Array Value)[s]? with
  | none =>
   have:(⟨fr⟩:Array Value).getD s undef=undef:=by simp [Array.getD_eq_getD_getElem?,a]
   first
    | (simp [a,undef]; done)
    | (rw [this]; simp [undef])
  | some v =>
   have:(⟨fr⟩:Array Value).getD s undef=v:=by simp [Array.getD_eq_getD_getElem?,a]
   first
    | (simp [a]; done)
    | (rw [this]; cases v <;> rfl)
theorem wanted_put {o p:Oper}{fr:List Value}{ds ds':List Deferred}{g:List Value->List Value}(c:∀ (y:Operand),(∀ e,p.dst=some e->Su y≠some e)->(F (g fr) ds).eval y=(F fr ds).eval y) (d:∀ e,p.dst=some e->(reads ops o).contains e=false) :
  Region.wanted o (yielded ops (F (g fr) ds').tmps)=Region.wanted o (yielded ops (F fr ds').tmps):=by
 have qb:(F (g fr) ds').tmps=(F (g fr) ds).tmps:=rfl;have ua:(F fr ds').tmps=(F fr ds).tmps:=rfl;rw [qb,ua];unfold Region.wanted;cases f:o.guard with
 | none=>rfl
 | some h =>
  obtain ⟨j,b⟩:=h;simp only;have:yielded ops (F (g fr) ds).tmps j=yielded ops (F fr ds).tmps j:=by
   rw [QC,QC];cases i:(ops[j]?).bind (·.dst) with
   | none=>rfl
   | some s =>
    simp only;rw [c (.tmp s) λe k a=>by
     simp [Su] at a;subst a;have:=d s k;unfold reads at this;rw [f] at this;simp [i] at this]
  first
   | rw [this]
   | simp [this]
theorem WI {o:Oper}{j d:Nat}{b Qc:Bool}(a:o.guard=some (j,b)) (c:(ops[j]?).bind (·.dst)=some d) (ma:fc fr d (.bool Qc)):Region.wanted o (yielded ops (F fr ds).tmps)=(Qc == b):=by
 unfold Region.wanted;rw [a];simp only;have:yielded ops (F fr ds).tmps j=some Qc:=by
  rw [QC,c];simp only;rw [ba ma ds]
 rw [this];cases b<;>cases Qc<;>rfl
theorem ij {o:Oper}(a:o.guard=none):Region.wanted o (yielded ops (F fr ds).tmps)=true:=by simp [Region.wanted,a]
theorem hn {o:Oper}{j d:Nat}{b:Bool}(a:o.guard=some (j,b)) (c:(ops[j]?).bind (·.dst)=some d) (ma:fc fr d (.bool b)):Region.wanted o (yielded ops (F fr ds).tmps)=true :=
 (WI a c ma).trans (by cases b<;>rfl)
end
end
section
open Go.RowKit
section
variable {P:Program}{Q:Exit->Act->World->Prop}{ops:Array Oper}{fr Aa:List Value}{ds:List Deferred}{w:World}
def waits (ops:Array Oper) (R S:List Nat) (i:Nat):Bool:=S.all λj=>j == i || S.any λk=>(pj ops j).contains k && R.contains k
theorem Wl.later {R d:List Nat}(h:Wl ops R d) (n:R.Nodup){i:Nat}{S:List Nat}(o:∀ j ∈ S,j=i\/∃ k ∈ S,k ∈ pj ops j/\k ∈ R):∀ a c,d=a++i::c->i ∉ a->∀ j ∈ a,j ∉ S:=by
 induction h with
 | z=>intro a c h; simp at h
 | @s R d k u t v =>
  intro a c h p j b;cases a with
  | nil=>cases b
  | cons e a =>
   simp only [List.cons_append,List.cons.injEq] at h;obtain ⟨rfl,h⟩:=h;have r:k ∉ S:=λf=>by
    rcases o k f with rfl | ⟨q,g,l,m⟩
    ·exact p (by simp)
    ·exact EH u l m
   rcases List.mem_cons.1 b with rfl | b
   ·exact r
   ·refine v (n.erase k) (λj b=>?_) a c h (λf=>p (by simp [f])) j b;rcases o j b with rfl | ⟨q,g,l,m⟩
    ·exact .inl rfl
    ·exact .inr ⟨q,g,l,(n.mem_erase_iff).2 ⟨λe=>r<|e ▸ g,m⟩⟩
end
end
open Go.RowKit
section
variable {P:Program}{Q:Exit->Act->World->Prop}{K:List Value->List Deferred->World->Prop}{fr Aa:List Value}{ds:List Deferred}{w:World}
variable {dst:Option Tmp}{ty:TypeId}{pos:String}{after:Array Edge}{g:Option (Nat×Bool)}
variable {S Ic:Nat->Prop}{da:World}{rs rs':List Ha}{A:World->Prop}
variable {T:TypeId}{d:TypeDesc}{pc:Bool}{Dc:List Value}{n m:Nat}
inductive sw (fr:List Value) (n:Nat):Nat->List (Nat×Operand)->List Value->Prop where
 | z {i:Nat}:sw fr n i [] []
 | s {i:Nat} {x:Operand} {v:Value} {cs rest:List Value} {xs:List (Nat×Operand)} (a:ab fr x v) (Pa:v.cells=⟨cs⟩) (b:cs.length=n) (t:sw fr n (i+1) xs rest):sw fr n i ((i,x)::xs) (cs++rest)
theorem sw.fill {i:Nat}{xs:List (Nat×Operand)}{cells:List Value}(h:sw fr n i xs cells):∀ a:List Value,a.length=i*n+cells.length ->
  Instr.fill (λi=>some (i*n,n)) ⟨a⟩ (xs.map λp=>(p.1,(F fr ds).eval p.2))=some ⟨a.take (i*n)++cells⟩:=by
 induction h with
 | z=>intro a b; simp at b; simp [Instr.fill,<- b]
 | @s i x v cs rest xs f Pa c t g =>
  intro a b;simp only [List.length_append] at b;have d:(i+1)*n=i*n+n:=by rw [Nat.add_mul,Nat.one_mul]
  simp only [List.map_cons,Instr.fill,f ds,Pa];have qb:¬ (((⟨cs⟩:Array Value).size≠n || i*n+(⟨cs⟩:Array Value).size > (⟨a⟩:Array Value).size)=true):=by simp [c,b]
  rw [if_neg qb];have j:=Az cs (i*n) 0 a (by omega);have ua:(⟨cs⟩:Array Value).zipIdx.toList=cs.zipIdx 0:=by simp
  have e:(⟨cs⟩:Array Value).zipIdx.foldl (λ(cs:Array Value) (p:Value×Nat)=>cs.setIfInBounds (i*n+p.2) p.1) ⟨a⟩=⟨a.take (i*n+0)++cs++a.drop (i*n+0+cs.length)⟩:=by
   rw [<- Array.foldl_toList,ua];exact j
  first
   | rw [e]
   | (erw [e])
  rw [g _ (by simp [d,c,b];omega)];congr 2;rw [d,c,Nat.add_zero];have:(a.take (i*n)++cs).length=i*n+n:=by simp [c];omega
  rw [<- this,List.take_left,List.append_assoc]
theorem yF {e:TypeId}{len:Nat}{xs:List (Nat×Operand)}{cells:List Value}(f:P.underlying T=some (.slice e)) (c:wb P e pc Dc n m) (a:(decide (0<n) && decide (n<=1000) && decide (0<len) && decide (len<=1000))=true) (j:sw fr n 0 xs cells) (k:cells.length=len*n) (l:Sep S Ic da w rs A)
  (h:∀ b w',w.heap.size<=b->Sep S Ic da w' (.ea b e cells::rs) A->Rg fr dst (.slice (some ⟨b,0,none⟩) len len) λAa=>K Aa ds w'):yd P (Oper.mk dst (.buildSlice T len ⟨xs⟩) ty pos after g) fr ds w K Q:=by
 obtain ⟨Aa,Ea⟩:=Xi fr dst (.slice (some ⟨w.heap.size,0,none⟩) len len);refine Qh (v:=.slice (some ⟨w.heap.size,0,none⟩) len len) (w':=w.alloc (.cells ⟨cells⟩ e)) ?_ Ea<|h _ _ (Nat.le_refl _) (l.alloc rfl<|heap_alloc_new w _) Aa Ea;obtain ⟨z,o,u⟩:=c.zero (w:=w);have q:=c.sizeOf (w:=w);simp only [Bool.and_eq_true,decide_eq_true_eq] at a;have hmul:len*n<=1000*1000:=Nat.mul_le_mul a.2 a.1.1.2;have r:¬ (len*n > 2 ^ 24):=by omega
 have s:¬ (len*n=0):=by
  have:=Nat.mul_pos a.1.2 a.1.1.1;omega
 have ma:((⟨xs⟩:Array (Nat×Operand)).map λ(i,x)=>(i,(F fr ds).eval x)).toList=xs.map λp=>(p.1,(F fr ds).eval p.2):=by simp
 have d:=j.fill (ds:=ds) ((Array.range (len*n)).map (z.cells[· % z.cells.size]!)).toList (by simp [k]);simp only [execOp,Instr.buildSlice,Sem.run_bind,run_underlying f,Result.andThen_ok,q,if_neg r,if_neg s,o,Sem.run_pure,ma];have t:(⟨((Array.range (len*n)).map (z.cells[· % z.cells.size]!)).toList⟩:Array Value)=(Array.range (len*n)).map (z.cells[· % z.cells.size]!):=rfl;rw [t] at d;simp only [d];simp [newRow]
structure lz (P:Program) (c:Code) (Q:Exit->Act->World->Prop) (n:Nat) (fr:List Value) (ds:List Deferred) (w:World):Prop where
 out:Code.rounds P c Q n (F fr ds) w
theorem UE {c:Code}(n:Nat) (h:lz P c Q n fr ds w):xd P (.loop c) Q fr ds w:=⟨wp_loop_rounds n h.out⟩
theorem yp {c:Code}{n:Nat}(h:xd P c (Exit.then (λa w=>∃ fr ds,a=F fr ds/\lz P c Q n fr ds w) Q) fr ds w):lz P c Q (n+1) fr ds w:=⟨by
 rw [rounds_succ];refine wp_mono h.out λe a w b=>?_;cases e with
 | normal=>obtain ⟨fr,ds,rfl,h⟩:=b; exact h.out
 | exit id=>exact b
 | goto l=>exact b
 | ret=>exact b
 | panic d=>exact b
 | outgrown=>exact b⟩
theorem Tt {c:Code}{n:Nat}(h:lz P c Q n fr ds w):Exit.then (λa w=>∃ fr ds,a=F fr ds/\lz P c Q n fr ds w) Q .normal (F fr ds) w:=⟨_,_,rfl,h⟩
theorem uJ {f:Operand}{xs:List Operand}{tys:Array TypeId}{k:FuncId}{first cap vs:List Value}{R:Value->World->Prop}(b:fb P k) (c:ab fr f (.func (.func k) ⟨first⟩ ⟨cap⟩)) (d:Pm fr xs vs)
  (i:kb P k (first++vs++cap) w R) (h:∀ v w',R v w'->Rg fr dst v λAa=>K Aa ds w'):yd P (Oper.mk dst (.call { callee:=.value f,args:=⟨xs⟩,argTypes:=tys }) ty pos after g) fr ds w K Q:=by
 refine OA (args:=first++vs++cap) ?_ i h;have j:=c ds;have l:=d ds;have a:=b.out ⟨first++vs++cap⟩ w;have e:(⟨first⟩:Array Value)++(⟨vs⟩:Array Value)++(⟨cap⟩:Array Value)=⟨first++vs++cap⟩:=by
  apply Array.ext';simp
 simp only [List.append_assoc] at a e ⊢;simp [execOp,resolve,j,Deferred.ofValue,invoke,l];first
  | exact a
  | (simpa using a)
end
end Go.Mc
namespace Go.Kf
open Go.Mc Go.RowKit
section
variable {P:Program}{Q:Exit->Act->World->Prop}{K:List Value->List Deferred->World->Prop}{fr Aa:List Value}{ds:List Deferred}{w:World}
variable {dst:Option Tmp}{ty:TypeId}{pos:String}{after:Array Edge}{g:Option (Nat×Bool)}
variable {da:World}{rs rs':List Ha}{μ J:M}
variable {T:TypeId}{d:TypeDesc}{pc:Bool}{Dc:List Value}{n m:Nat}
def okV (R:Value->World->Prop):Ending->World->Prop
 | .returned v,w=>R v w
 | _,_=>False
def It (P:Program) (fn:Func) (R:Value->World->Prop):Exit->Act->World->Prop
 | .panic _,_,_=>False
 | e,a,w=>bodyPostD P fn (okV R) e a w
theorem py {f:FuncId}{fn:Func}{c:Code}{args frm:List Value}{R:Value->World->Prop}(d:P.funcs[f]?=some fn) (g:fn.body=some c)
  (i:args++List.replicate (fn.ntmps - args.length) undef=frm) (h:xd P c (It P fn R) frm [] w):kb P f args w R:=by
 refine ⟨Calls.mono (calls_of_wp_defers (R:=okV R) d g ?_) λe w j=>by cases e<;>exact j⟩;subst i;have ua:(⟨args⟩:Array Value)++Array.replicate (fn.ntmps - args.length) undef=⟨args++List.replicate (fn.ntmps - args.length) undef⟩:=by
  apply Array.ext';simp
 have h:=wp_mono h.out (Q':=bodyPostD P fn (okV R)) λe a w b=>by
  cases e<;>first | exact b | exact (False.elim b)
 simpa [F,ua] using h
structure QA (P:Program) (f:FuncId) (args:List Value) (w:World) (R:Value->World->Prop):Prop where
 out:∀ u,CallsD P f ⟨args⟩ u w λe a w'=>a=u/\okV R e w'
theorem vJ {f:FuncId}{fn:Func}{c:Code}{args frm:List Value}{R:Value->World->Prop}(d:P.funcs[f]?=some fn) (g:fn.body=some c)
  (j:args++List.replicate (fn.ntmps - args.length) undef=frm) (h:xd P c (sq P fn R) frm [] w):QA P f args w R:=by
 refine ⟨λu=>callsD_of_wp d g ?_⟩;subst j;have ua:(⟨args⟩:Array Value)++Array.replicate (fn.ntmps - args.length) undef=⟨args++List.replicate (fn.ntmps - args.length) undef⟩:=by
  apply Array.ext';simp
 have h:=wp_mono h.out (Q':=bodyPost P fn (okV R)) λe a w b=>by
  cases e with
  | normal=>exact b
  | ret=>exact b
  | panic k=>exact b
  | exit i=>exact b
  | goto l=>exact b
  | outgrown=>exact b
 simpa [F,ua] using h
theorem jy {f:Operand}{xs:List Operand}{tys:Array TypeId}{k:FuncId}{cap vs:List Value}(a:ab fr f (.func (.func k) #[] ⟨cap⟩)) (b:Pm fr xs vs)
  (c:Bf fr dst undef Aa) (h:K Aa (⟨.fn (.func k) ⟨cap⟩,⟨vs⟩⟩::ds) w):yd P (Oper.mk dst (.defer { callee:=.value f,args:=⟨xs⟩,argTypes:=tys }) ty pos after g) fr ds w K Q:=by
 constructor;intro l d;have e:=a ds;have i:=b ds;have j:(execOp (F fr ds).eval (Oper.mk dst (.defer { callee:=.value f,args:=⟨xs⟩,argTypes:=tys }) ty pos after g)).run P w=.ok (.defer ⟨.fn (.func k) ⟨cap⟩,⟨vs⟩⟩) w:=by
  simp [execOp,resolve,e,Deferred.ofValue,i]
 unfold Oper.wp;rw [j];have:=d _ _ _ h;rw [<- c _] at this;simpa [Oper.upon,F,Act.put] using this
theorem HB {fn:Func}{R b:Value->World->Prop}{k:FuncId}{cap vs:List Value}(d:fb P k) (f:QA P k (vs++cap) w b) (h:∀ v w',b v w'->It P fn R .ret (F fr ds) w') :
  It P fn R .ret (F fr (⟨.fn (.func k) ⟨cap⟩,⟨vs⟩⟩::ds)) w:=by
 refine ⟨by simp,.func k,⟨cap⟩,k,⟨vs++cap⟩,rfl,?_,?_⟩
 ·have:=d.out ⟨vs++cap⟩ w;simp [invoke,this]
 ·refine (f.out .returning).mono λe g w' a=>?_;obtain ⟨rfl,a⟩:=a;cases e with
  | returned v=>exact h v w' a
  | panicked c=>exact a.elim
  | outgrown=>exact a.elim
theorem jq {fn:Func}{R:Value->World->Prop}{a:List ResultVar}{vs:List Value}(b:fn.results=⟨a⟩) (Pa:jb P fr w a vs) (h:R (cv vs) w):It P fn R .ret (F fr []) w :=
 ⟨_,DH b Pa,h⟩
def Gc (ms:List (Nat×List MapEntry×Nat)):List Ha:=(ms.map λm=>.map m.1 m.2.1 m.2.2).reverse
def Rd (ms:List (Nat×List MapEntry×Nat)):List Value:=ms.map λm=>.map (some m.1)
variable {κ β:Type}[DecidableEq κ] [gb κ] [Lh β]
def re (μ:M):List (Nat×List MapEntry×Nat)->List (List (κ×β))->Prop
 | [],Jd=>Jd=[]
 | m::ms,Jd=>∃ x t,Jd=x::t/\oe μ m.2.1 m.2.2 x/\re μ ms t
theorem re.up (l:ha μ J):∀ {ms:List (Nat×List MapEntry×Nat)}{Jd:List (List (κ×β))},re μ ms Jd->re J ms Jd
 | [],Jd,h=>by rw [re] at h ⊢; exact h
 | m::ms,Jd,h=>by
  rw [re] at h ⊢;obtain ⟨x,t,a,b,c⟩:=h;exact ⟨x,t,a,b.up l,re.up l c⟩
theorem re.get:∀ {ms:List (Nat×List MapEntry×Nat)}{Jd:List (List (κ×β))}{i:Nat}{x:List (κ×β)},re μ ms Jd->Jd[i]?=some x->∃ b es c,ms[i]?=some (b,es,c)/\oe μ es c x
 | [],Jd,i,x,h,a=>by rw [re] at h; subst h; simp at a
 | m::ms,Jd,i,x,h,a=>by
  rw [re] at h;obtain ⟨y,t,rfl,d,e⟩:=h;cases i with
  | zero=>simp at a; subst a; exact ⟨m.1,m.2.1,m.2.2,rfl,d⟩
  | succ i=>simp at a; simpa using re.get e a
theorem re.set:∀ {ms:List (Nat×List MapEntry×Nat)}{Jd:List (List (κ×β))}{i:Nat}{e:Nat×List MapEntry×Nat}{x:List (κ×β)},re μ ms Jd->oe μ e.2.1 e.2.2 x->re μ (ms.set i e) (Jd.set i x)
 | [],Jd,i,e,x,h,a=>by rw [re] at h; subst h; simp [re]
 | m::ms,Jd,i,e,x,h,a=>by
  rw [re] at h;obtain ⟨y,t,rfl,c,b⟩:=h;cases i with
  | zero=>exact ⟨x,t,rfl,a,b⟩
  | succ i=>exact ⟨y,_,rfl,c,re.set b a⟩
theorem re.push:∀ {ms:List (Nat×List MapEntry×Nat)}{Jd:List (List (κ×β))}{e:Nat×List MapEntry×Nat}{x:List (κ×β)},re μ ms Jd->oe μ e.2.1 e.2.2 x->re μ (ms++[e]) (Jd++[x])
 | [],Jd,e,x,h,a=>by rw [re] at h; subst h; exact ⟨x,[],rfl,a,rfl⟩
 | m::ms,Jd,e,x,h,a=>by
  rw [re] at h;obtain ⟨y,t,rfl,b,c⟩:=h;exact ⟨y,_,rfl,b,re.push c a⟩
theorem re.take:∀ {ms:List (Nat×List MapEntry×Nat)}{Jd:List (List (κ×β))}(j:Nat),re μ ms Jd->re μ (ms.take j) (Jd.take j)
 | [],Jd,j,h=>by rw [re] at h; subst h; simp [re]
 | m::ms,Jd,j,h=>by
  rw [re] at h;obtain ⟨y,t,rfl,a,b⟩:=h;cases j with
  | zero=>simp [re]
  | succ j=>exact ⟨y,_,rfl,a,re.take j b⟩
theorem zM (ms:List (Nat×List MapEntry×Nat)) (e:Nat×List MapEntry×Nat):Gc (ms++[e])=.map e.1 e.2.1 e.2.2::Gc ms:=by simp [Gc]
theorem QM {ms:List (Nat×List MapEntry×Nat)}{i b c c':Nat}{es a:List MapEntry}(h:ms[i]?=some (b,es,c)):Rd (ms.set i (b,a,c'))=Rd ms:=by
 unfold Rd;refine List.ext_getElem? λj=>?_;rw [List.getElem?_map,List.getElem?_map,List.getElem?_set];split
 ·rename_i d;subst d;have e:=(List.getElem?_eq_some_iff.1 h).1;rw [if_pos e,h];rfl
 ·rfl
theorem RM {ms:List (Nat×List MapEntry×Nat)}{i b c:Nat}{es:List MapEntry}(h:ms[i]?=some (b,es,c)):Ha.map b es c ∈ Gc ms:=by
 unfold Gc;rw [List.mem_reverse,List.mem_map];exact ⟨(b,es,c),List.mem_of_getElem? h,rfl⟩
theorem _root_.Go.Mc.Sep.DU {pre:List Ha}{ms:List (Nat×List MapEntry×Nat)}{i b c:Nat}{es:List MapEntry}(a:fa μ da w (pre++(Gc ms++rs))) (h:ms[i]?=some (b,es,c)):w.heap[b]?=some (.map ⟨es⟩ c):=
 a.all (.map b es c) (by simp [RM h])
theorem Row.mapElem {v:Value}{ms:List (Nat×List MapEntry×Nat)}{Jd:List (List (κ×β))}{i:Int}{x:List (κ×β)}(h:Row w v T 1 Jd.length (Rd ms)) (e:re μ ms Jd) (g:at_ Jd i=some x) :
  ∃ b o xb es c,Bk v 1 i b o/\(∀ w T,Row w v T 1 Jd.length (Rd ms)->lj w b o [.map (some xb)])/\ms[i.toNat]?=some (xb,es,c)/\oe μ es c x:=by
 obtain ⟨f,k,l⟩:=Wu g;obtain ⟨xb,es,c,d,m⟩:=e.get l;obtain ⟨b,o,q,rfl,r⟩:=h.Pn (by omega);refine ⟨b,o+i.toNat,xb,es,c,⟨o,_,_,rfl,f,k,by simp⟩,λs t n j u a=>?_,d,m⟩;obtain ⟨Qc,y,c',Pa,p⟩:=n.Pn (by omega);simp at Pa;obtain ⟨⟨rfl,rfl⟩,rfl⟩:=Pa;cases j with
 | succ j=>simp at a
 | zero =>
  simp at a;subst a;have:(Rd ms)[i.toNat]?=some (.map (some xb)):=by unfold Rd;rw [List.getElem?_map,d];rfl
  exact p _ _ this
theorem wJ {x y z:Operand}{me ba:TypeId}{v:Value}{pre:List Ha}{ms:List (Nat×List MapEntry×Nat)}{b c i:Nat}{es:List MapEntry}{kk:κ}{q:List (κ×β)}{xx:β}{Jd:List (List (κ×β))}(o:P.underlying T=some (.map me ba)) (p:P.underlying me=some (gb.bd (κ:=κ))) (r:ab fr x (.map (some b))) (s:ab fr y (gb.key kk)) (t:ab fr z v) (Pa:Lh.jj μ v xx)
  (u:fa μ da w (pre++(Gc ms++rs))) (d:ms[i]?=some (b,es,c)) (k:oe μ es c q) (A:re μ ms Jd)
  (Ea:Bf fr dst undef Aa) (h:∀ f w',re μ f (Jd.set i (kd q kk xx))->Rd ms=Rd f->Jd.length=(Jd.set i (kd q kk xx)).length->fa μ da w' (pre++(Gc f++rs))->K Aa ds w'):yd P (Oper.mk dst (.mapUpdate T x y z) ty pos after g) fr ds w K Q:=by
 have C:=(List.getElem?_eq_some_iff.1 d).1;have B:(pre++(Gc ms++rs))[pre.length+(ms.length - 1 - i)]?=some (.map b es c):=by
  rw [List.getElem?_append_right (by omega),Nat.add_sub_cancel_left,List.getElem?_append_left (by simp [Gc];omega)];unfold Gc;rw [List.getElem?_reverse (by simp;omega),List.length_map,show ms.length - 1 - (ms.length - 1 - i)=i by omega,List.getElem?_map,d];rfl
 refine dK o p r s (gb.me kk) t u B k.kv.keys Ea λw' rs' l m=>h _ w' (A.set (e:=(b,putAt es c (gb.key kk) v,Nj es c (gb.key kk)))<|k.put kk Pa) (QM d).symm (by simp) ?_;unfold Zb at l;subst l;have e:(pre++(Gc ms++rs)).set (pre.length+(ms.length - 1 - i)) (.map b (putAt es c (gb.key kk) v) (Nj es c (gb.key kk)))=pre++(Gc (ms.set i (b,putAt es c (gb.key kk) v,Nj es c (gb.key kk)))++rs):=by
  rw [List.set_append_right _ _ (by omega),Nat.add_sub_cancel_left,List.set_append_left _ _ (by simp [Gc];omega)];congr 2;unfold Gc;rw [List.map_set];refine List.ext_getElem? λj=>?_;rcases Nat.lt_or_ge j ms.length with a | a
  ·rw [List.getElem?_set,List.getElem?_reverse (by simpa using a),List.getElem?_reverse (by simpa using a)];simp only [List.length_map,List.length_reverse,List.length_set,List.getElem?_set];by_cases n:ms.length - 1 - i=j
   ·rw [if_pos n,if_pos (by omega),if_pos (by omega),if_pos (by omega)]
   ·rw [if_neg n,if_neg (by omega)]
  ·rw [List.getElem?_eq_none (by simpa using a),List.getElem?_eq_none (by simpa using a)]
 rw [e] at m;exact m
theorem fK {t:TypeId}{s x:Operand}{v:Value}{bytes k b xb c:Nat}{ms:List (Nat×List MapEntry×Nat)}{Jd d:List (List (κ×β))}(e:P.underlying t=some (.slice T)) (f:wb P T pc Dc 1 bytes) (i:Dc.length=1)
  (j:ab fr s v) (l:ab fr x (.slice (some ⟨b,0,none⟩) 1 c)) (m:fa μ da w rs) (ma:fc rs k (.row v T 1 Jd.length (Rd ms))) (n:lj w b 0 [.map (some xb)]) (o:app Jd [([]:List (κ×β))]=some d) (p:bytes<=4096)
  (h:∀ a w' rs',Zb rs k (.row a T 1 d.length (Rd ms++[.map (some xb)])) rs'->fa μ da w' rs'->Rg fr dst a λAa=>K Aa ds w') :
  yd P (Oper.mk dst (.call { callee:=.builtin .append,args:=#[s,x],argTypes:=#[t,t] }) ty pos after g) fr ds w K Q:=by
 obtain ⟨q,r⟩:=PA o;refine Gu e f (by simp [i]) j l m ma n rfl rfl ⟨r,p⟩ λa w' rs' u=>h a w' rs' (by rw [q];exact u)
theorem _root_.Go.Mc.Sep.QK {pre:List Ha}{ms:List (Nat×List MapEntry×Nat)}{b c:Nat}{es:List MapEntry}(a:fa μ da w (pre++(.map b es c::(Gc ms++rs)))):fa μ da w (pre++(Gc (ms++[(b,es,c)])++rs)):=by
 rw [zM];exact a
theorem uH (ms:List (Nat×List MapEntry×Nat)) (b c:Nat) (es:List MapEntry):Rd ms++[.map (some b)]=Rd (ms++[(b,es,c)]):=by simp [Rd]
theorem _root_.Go.Mc.Sep.IB {pre:List Ha}{ms:List (Nat×List MapEntry×Nat)}{j:Nat}(a:fa μ da w (pre++(Gc ms++rs))):fa μ da w (pre++(Gc (ms.take j)++rs)):=by
 have c:(pre++(Gc (ms.take j)++rs)).Sublist (pre++(Gc ms++rs)):=by
  refine (List.Sublist.refl pre).append (List.Sublist.append ?_<|List.Sublist.refl rs);unfold Gc;exact ((List.take_sublist j ms).map _).reverse
 refine ⟨a.keeps,λr e=>a.all r<|c.subset e,(c.filterMap _).nodup a.ti,λb f=>a.new b<|(c.filterMap _).subset f,?_⟩;refine a.bj.mono λk _ d=>⟨d.1,λg=>d.2<|(c.filterMap Ha.block).subset g⟩
theorem Row.SK {v:Value}{sz:Nat}{xs:List Value}{j:Int}(h:Row w v T sz n xs) (c:0<=j) (m:j<=n) :
  ∃ a,nv v sz none (some j) a/\a.ownBlock=v.ownBlock/\∀ w T,Row w v T sz n xs->Row w a T sz j.toNat (xs.take (j.toNat*sz)):=by
 have ma:∀ w T,Row w v T sz n xs->(xs.take (j.toNat*sz)).length=j.toNat*sz:=λw T h=>by
  rw [List.length_take,h.1];exact Nat.min_eq_left<|Nat.mul_le_mul_right _ (by omega)
 rcases h.2 with ⟨rfl,rfl⟩ | ⟨g,o,cap,cur,rfl,p,q,r,s,t⟩
 ·have:j=0:=by omega
  subst this;exact ⟨.slice none 0 0,⟨none,0,0,rfl,by simp,by simp,by simp,by simp⟩,rfl,λw T h=>⟨ma w T h,.inl ⟨rfl,rfl⟩⟩⟩
 ·refine ⟨.slice (some ⟨g,o,none⟩) j.toNat cap,⟨_,_,_,rfl,by simp,by simpa using c,by simp;omega,?_⟩,rfl,λd e b=>⟨ma d e b,.inr ?_⟩⟩
  ·simp [il]
  ·rcases b.2 with ⟨Pa,_⟩ | ⟨u,x,zp,f,Pa,i,k1,k,l,pf⟩
   ·simp at Pa
   ·simp at Pa;obtain ⟨⟨rfl,rfl⟩,rfl⟩:=Pa;exact ⟨g,o,cap,f,rfl,i,by omega,k,l,by rw [<- pf,List.take_take,Nat.min_eq_left (Nat.mul_le_mul_right _ (by omega))]⟩
theorem Row.cutFrom {v:Value}{sz:Nat}{xs:List Value}{i:Int}(h:Row w v T sz n xs) (f:0<=i) (j:i<=n) :
  ∃ a,nv v sz (some i) none a/\a.ownBlock=v.ownBlock/\∀ w T,Row w v T sz n xs->Row w a T sz (n - i.toNat) (xs.drop (i.toNat*sz)):=by
 have ma:∀ w T,Row w v T sz n xs->(xs.drop (i.toNat*sz)).length=(n - i.toNat)*sz:=λw T h=>by
  rw [List.length_drop,h.1,Nat.sub_mul]
 rcases h.2 with ⟨rfl,rfl⟩ | ⟨g,o,cap,cur,rfl,m,p,q,r,s⟩
 ·have:i=0:=by omega
  subst this;exact ⟨.slice none 0 0,⟨none,0,0,rfl,by simp,by simp,by simp,by simp⟩,rfl,λw T h=>⟨ma w T h,.inl ⟨rfl,by simp⟩⟩⟩
 ·refine ⟨_,⟨_,_,_,rfl,by simpa using f,by simpa using j,by simp;omega,rfl⟩,by simp only [Option.getD_some];split<;>simp [Value.ownBlock,il],λk l b=>⟨ma k l b,.inr ?_⟩⟩;rcases b.2 with ⟨Pa,_⟩ | ⟨t,u,zp,c,Pa,d,k1,x,y,pf⟩
  ·simp at Pa
  ·simp at Pa;obtain ⟨⟨rfl,rfl⟩,rfl⟩:=Pa;have hmul:i.toNat*sz+(cap - i.toNat)*sz=cap*sz:=by rw [<- Nat.add_mul];congr 1;omega
   by_cases e:cap=i.toNat
   ·refine ⟨g,o,cap - i.toNat,c,by simp [e],d,by omega,by omega,by omega,?_⟩;rw [show n - i.toNat=0 by omega,Nat.zero_mul,List.take_zero,List.drop_eq_nil_of_le (by rw [b.1];exact Nat.mul_le_mul_right _ (by omega))]
   ·refine ⟨g,o+i.toNat*sz,cap - i.toNat,c,by simp [e,il],d,by omega,by omega,by omega,?_⟩;rw [<- pf,<- List.drop_drop,List.drop_take,Nat.sub_mul]
theorem qa.drop {α:Type}[Ma α]:∀ {l:List α}{cells:List Value}(i:Nat),qa μ cells l->qa μ (cells.drop (i*Ma.sz α)) (l.drop i)
 | [],cells,i,h=>by rw [qa] at h; subst h; simp [qa]
 | x::l,cells,0,h=>by simpa using h
 | x::l,cells,i+1,h=>by
  rw [qa] at h;obtain ⟨cs,t,rfl,a,b⟩:=h;have e:(i+1)*Ma.sz α=cs.length+i*Ma.sz α:=by rw [Nat.add_mul,Ma.Uh a];omega
  rw [e,<- List.drop_drop];simpa using qa.drop i b
theorem Row.rL {α:Type}[Ma α]{v:Value}{cells:List Value}{l Ba:List α}{i:Int}(h:Row w v T (Ma.sz α) l.length cells) (c:qa μ cells l) (g:cut l i l.length=some Ba) :
  ∃ a b,nv v (Ma.sz α) (some i) none a/\a.ownBlock=v.ownBlock/\(∀ w T,Row w v T (Ma.sz α) l.length cells->Row w a T (Ma.sz α) Ba.length b)/\qa μ b Ba:=by
 obtain ⟨⟨d,e,m⟩,rfl⟩:=nw g;obtain ⟨a,ua,f,j⟩:=Row.cutFrom h d e;refine ⟨a,cells.drop (i.toNat*Ma.sz α),ua,f,λw T k=>?_,by simpa using c.drop i.toNat⟩;have:=j w T k;simpa using this
theorem Row.sL {v:Value}{ms:List (Nat×List MapEntry×Nat)}{Jd b:List (List (κ×β))}{j:Int}(h:Row w v T 1 Jd.length (Rd ms)) (d:re μ ms Jd) (g:cut Jd 0 j=some b) :
  ∃ a c,nv v 1 none (some j) a/\a.ownBlock=v.ownBlock/\(∀ w T,Row w v T 1 Jd.length (Rd ms)->Row w a T 1 b.length (Rd c))/\re μ c b/\ms.take j.toNat=c:=by
 obtain ⟨⟨m,e,f⟩,rfl⟩:=nw g;obtain ⟨a,ua,i,k⟩:=Row.SK h e f;refine ⟨a,ms.take j.toNat,ua,i,λw T l=>?_,by simpa using d.take j.toNat,rfl⟩;have:=k w T l;have el:((Jd.take j.toNat).drop (0:Int).toNat).length=j.toNat:=by simp;omega
 rw [el];have db:Rd (ms.take j.toNat)=(Rd ms).take (j.toNat*1):=by simp [Rd]
 rw [db];exact this
theorem _root_.Go.Mc.Sep.perm {S Ic:Nat->Prop}{A:World->Prop}(h:Sep S Ic da w rs A) (a:rs.Perm rs'):Sep S Ic da w rs' A where
 keeps:=h.keeps
 all r d:=h.all r (a.mem_iff.2 d)
 ti:=(a.filterMap _).nodup_iff.1 h.ti
 new b e:=h.new b ((a.filterMap _).mem_iff.2 e)
 bj:=h.bj.mono λk _ c=>⟨c.1,λf=>c.2 ((a.filterMap Ha.block).mem_iff.2 f)⟩
theorem _root_.Go.Mc.Sep.dd {a p M R:List Ha}(h:fa μ da w (a++(p++(M++R)))):fa μ da w (a++(M++(p++R))):=
 h.perm (List.Perm.append_left a (by
  rw [<- List.append_assoc,<- List.append_assoc];exact List.Perm.append_right R List.perm_append_comm))
theorem _root_.Go.Mc.Sep.wy {k:Nat}{v c:Value}{sz e:Nat}{xs f:List Value}{S Ic:Nat->Prop}{A:World->Prop}(a:Sep S Ic da w rs A) (ma:fc rs k (.row v T sz n xs)) (l:c.ownBlock=v.ownBlock) (m:∀ w T,Row w v T sz n xs->Row w c T sz e f) (g:Zb rs k (.row c T sz e f) rs'):Sep S Ic da w rs' A:=by
 have h:Row w v T sz n xs:=a.get ma;cases Pa:v.ownBlock with
 | some b=>exact a.put (b:=b) (r:=.row v T sz n xs) (r':=.row c T sz e f) ma Pa (l.trans Pa) g (m _ _ h) (Yi.refl _)
 | none =>
  unfold Zb at g;subst g;have j:=WH (r':=.row c T sz e f) ma (show c.ownBlock=v.ownBlock from l);refine ⟨a.keeps,λr o=>?_,by rw [j];exact a.ti,by rw [j];exact a.new,by rw [j];exact a.bj⟩;obtain ⟨i,d⟩:=List.mem_iff_getElem?.1 o;rw [List.getElem?_set] at d;split at d
  ·split at d
   ·cases d;exact m _ _ h
   ·cases d
  ·exact a.all r<|List.mem_of_getElem? d
end
theorem ub {P : Program} {f : FuncId} {fn : Func} (a : P.funcs[f]? = some fn) (b : fn.body.isSome = true := by rfl) (c : (fn.name == "runtime.NumGoroutine") = false := by kernel_rfl) : fb P f := VQ a b c
theorem Lc {P : Program}{T : TypeId}{d : TypeDesc}{pc : Bool}{z : Value}{Dc : List Value}{n m : Nat}(a : P.underlying T = some d) (b : DB d = pc := by rfl) (h : (P.info? T).map (λi => (i.zero, i.size, i.bytes)) = some (some z, n, m):= by kernel_rfl) (c : z.cells = ⟨Dc⟩ := by rfl) : wb P T pc Dc n m := AU a b h c
theorem Oj {v:Value}{l:List Value}(h:ee v=true) (k:l.all ee=true):(v::l).all ee=true:=by simp [h,k]
theorem Ut:([]:List Value).all ee=true:=rfl
theorem SM (A vs:List Value) (o q N:Nat) (d:q+vs.length<=N) (e:o+N<=A.length):((A.take (o+q)++vs++A.drop (o+q+vs.length)).drop o).take N=((A.drop o).take N).take q++vs++((A.drop o).take N).drop (q+vs.length):=by
 apply List.ext_getElem?;intro j;simp only [List.getElem?_take,List.getElem?_drop,List.getElem?_append,List.length_append,List.length_take,List.length_drop];have ua:min (o+q) A.length=o+q:=by omega
 have c:min q (min N (A.length - o))=q:=by omega
 rw [ua,c];by_cases eb:j<q
 ·have b:j<N:=by omega
  have a:j<q+vs.length:=by omega
  simp [eb,b,a,show o+j<o+q by omega,show o+j<o+q+vs.length by omega]
 ·by_cases b:j<q+vs.length
  ·rw [if_pos (by omega),if_pos (by omega),if_neg (by omega),if_pos (by omega),if_neg (by omega)];congr 1;omega
  ·by_cases a:j<N
   ·rw [if_pos a,if_neg (by omega),if_neg (by omega),if_pos (by omega)];congr 1;omega
   ·rw [if_neg a,if_neg (by omega),if_neg (by omega)]
section
variable {P:Program}{Q:Exit->Act->World->Prop}{K:List Value->List Deferred->World->Prop}{fr Aa:List Value}{ds:List Deferred}{w:World}
variable {dst:Option Tmp}{ty:TypeId}{pos:String}{after:Array Edge}{g:Option (Nat×Bool)}
variable {da:World}{rs rs':List Ha}{μ J:M}
variable {T:TypeId}{d:TypeDesc}{pc:Bool}{Dc:List Value}{n m:Nat}
theorem zA {x y:Operand}{b o off sz len k:Nat}{i:Int}{v d:Value}{vs xs e:List Value}{Xe:TypeId}{S Ic:Nat->Prop}{A:World->Prop}(r:wb P T pc Dc n m) (s:ab fr x (.pointer (some ⟨b,o+off,none⟩))) (t:ab fr y d) (Pa:d.cells=⟨vs⟩) (u:vs.length=n) (z:vs.all ee=true)
  (f:Sep S Ic da w rs A) (ma:fc rs k (.row v Xe sz len xs)) (B:Bk v sz i b o) (V:off+vs.length<=sz) (C:xs.take (i.toNat*sz+off)++vs++xs.drop (i.toNat*sz+off+vs.length)=e) (D:Zb rs k (.row v Xe sz len e) rs')
  (Ea:Bf fr dst undef Aa) (h:∀ w',Sep S Ic da w' rs' A->K Aa ds w'):yd P (Oper.mk dst (.store T x y) ty pos after g) fr ds w K Q:=by
 have E:Row w v Xe sz len xs:=f.get ma;obtain ⟨a,zd,j,rfl,W,X,rfl⟩:=B.out;obtain ⟨F,c⟩:=E;rcases c with ⟨c,-⟩ | ⟨Y,Z,cap,cur,c,G,l,H,bb,L⟩
 ·cases c
 ·cases c;have M:i.toNat<len:=by omega
  have hmul:(i.toNat+1)*sz<=len*sz:=Nat.mul_le_mul_right _ M;have Gb:len*sz<=j*sz:=Nat.mul_le_mul_right _ l;have gc:(i.toNat+1)*sz=i.toNat*sz+sz:=Nat.succ_mul ..;have p:Ak w b Xe cur.toList:=G;have hle:(a+i.toNat*sz+off)+0+vs.length<=(⟨cur.toList⟩:Array Value).size:=by simp;omega
  have q:=run_storeCells_at P b (a+i.toNat*sz+off) Xe vs 0 ⟨cur.toList⟩ w p hle λv Pa=>iE (List.all_eq_true.1 z v Pa);have ua:d.cells.toList=vs:=by rw [Pa]
  have N:¬ (d.cells.size≠n):=by rw [Pa];simpa using u
  have O:=r.sizeOf (w:=w);simp only [Nat.add_zero] at q;have R:Yi (λk=>k≠b) w (w.setRow b (cur.toList.take (a+i.toNat*sz+off)++vs++cur.toList.drop (a+i.toNat*sz+off+vs.length)).toArray):=⟨rfl,rfl,rfl,by simp [World.setRow],λk lc U=>setRow_other w b k _ U⟩;refine CB ?_ Ea<|h _<|f.put (b:=b) ma rfl rfl D ?_ R
  ·simp only [execOp,Instr.storeAt,s ds,t ds,Instr.sureAddr,storeVar,Sem.run_bind,O,Result.andThen_ok,if_neg N,ua,q,Sem.run_pure]
  ·subst C;refine ⟨by simp [F];omega,.inr ⟨b,a,j,_,rfl,setRow_heap w b ⟨cur.toList⟩ _ Xe (0,0) p,l,H,?_,?_⟩⟩
   ·simp;omega
   ·subst L;have:=SM cur.toList vs a (i.toNat*sz+off) (len*sz) (by omega) (by simp;omega);rw [<- Nat.add_assoc] at this;exact this
class QW (α β:Type) [Ma α] [Ma β] where
 code:α->List β
 set:α->List β->α
 Ea:M->List Value->α->Prop
 up:∀ {μ J:M}{l:List Value}{x:α},ha μ J->Ea μ l x->Ea J l x
 Uh:∀ {μ:M}{l:List Value}{x:α},Ea μ l x->l.length+1=Ma.sz α
 wr:∀ {μ:M}{l:List Value}{x:α}{ys:List β}{a:Option Addr}{c:Nat},Ea μ l x->ya μ a c ys->Ma.cs μ (l++[.slice a ys.length c]) (set x ys)
 st:∀ {μ:M}{l:List Value}{x:α}{ys:List β},Ea μ l x->Ea μ l (set x ys)
 Tc:∀ {x:α},set x (code x)=x
 cs:∀ {x:α}{ys:List β},code (set x ys)=ys
variable {α β:Type}[Ma α] [Ma β] [QW α β]
end
end Go.Kf
namespace Go.Mc
open Go.RowKit
section
variable {P:Program}{Q:Exit->Act->World->Prop}{ops:Array Oper}{fr Aa:List Value}{ds:List Deferred}{w:World}
end
section
variable {P:Program}{Q:Exit->Act->World->Prop}{ops:Array Oper}{fr Aa:List Value}{ds:List Deferred}{w:World}
abbrev Mon:=List Nat×(World->Prop)
def Hi (i:Nat) (Wa:List Mon):List Mon:=Wa.filter λm=>!m.1.contains i
def ud:List Mon->World->Prop
 | [],_=>True
 | m::l,w=>m.2 w/\ud l w
theorem ud.mem {Wa:List Mon}{w:World}:ud Wa w ↔ ∀ m ∈ Wa,m.2 w:=by
 induction Wa with
 | nil=>simp [ud]
 | cons m l a=>simp [ud,a]
theorem ud.sub {Wa Ns':List Mon}(h:ud Wa w) (a:∀ m ∈ Ns',m ∈ Wa):ud Ns' w:=ud.mem.2 λm b=>ud.mem.1 h m (a m b)
theorem RA {i:Nat}{Wa:List Mon}:∀ m ∈ Hi i Wa,m ∈ Wa:=λm a=>(List.mem_filter.1 a).1
theorem AA {i:Nat}{Wa Ns':List Mon}(h:∀ m ∈ Ns',m ∈ Wa):∀ m ∈ Hi i Ns',m ∈ Hi i Wa:=λm a=>List.mem_filter.2 ⟨h m (List.mem_filter.1 a).1,(List.mem_filter.1 a).2⟩
def Ch (P:Program) (ops:Array Oper) (Q:Exit->Act->World->Prop):List Mon->List Nat->Act->World->Prop
 | _,[],a,w=>Q .normal a w
 | Wa,i::rest,a,w =>
  match ops[i]? with
  | none=>Ch P ops Q (Hi i Wa) rest a w
  | some o =>
   if Region.wanted o (yielded ops a.tmps) then o.wp P a w (λa w=>ud (Hi i Wa) w/\Ch P ops Q (Hi i Wa) rest a w) Q\/(o.asks P a w/\LetsOut Q)
   else Ch P ops Q (Hi i Wa) rest (a.put o.dst undef) w
theorem zF {o:Oper}{a:Act}{K d:Act->World->Prop}(h:o.wp P a w K Q) (b:∀ a w,K a w->d a w):o.wp P a w d Q:=by
 unfold Oper.wp at h ⊢;cases g:(execOp a.eval o).run P w with
 | halt e w'=>rw [g] at h; cases e <;> exact h
 | ok r w' =>
  rw [g] at h;cases r with
  | value x=>exact b _ _ h
  | skip=>exact b _ _ h
  | defer j=>exact b _ _ h
  | enter f args =>
   rw [Oper.upon_enter] at h ⊢;refine Calls.mono h λe i c=>?_;cases e with
   | returned x=>exact b _ _ c
   | panicked k=>exact c
   | outgrown=>exact c
  | row r args =>
   rw [Oper.upon_row] at h ⊢;exact Rows.mono h λx i c=>b _ _ c
  | _=>exact h
theorem Ch.mono:∀ (b:List Nat){Wa Ns':List Mon}{a:Act}{w:World},Ch P ops Q Wa b a w->(∀ m ∈ Ns',m ∈ Wa)->Ch P ops Q Ns' b a w
 | [],_,_,_,_,h,_=>h
 | i::b,Wa,Ns',a,w,h,c=>by
  simp only [Ch] at h ⊢;cases e:ops[i]? with
  | none=>rw [e] at h; exact Ch.mono b h<|AA c
  | some o =>
   rw [e] at h;simp only at h ⊢;split
   ·rename_i d;rw [if_pos d] at h;rcases h with h | h
    ·exact .inl<|zF h λa w ⟨f,g⟩=>⟨f.sub<|AA c,Ch.mono b g<|AA c⟩
    ·exact .inr h
   ·rename_i d;rw [if_neg d] at h;exact Ch.mono b h<|AA c
theorem Ch.plain:∀ (b:List Nat){Wa:List Mon}{a:Act}{w:World},Ch P ops Q Wa b a w->wpOps P ops Q b a w
 | [],_,_,_,h=>h
 | i::b,Wa,a,w,h=>by
  simp only [Ch] at h;simp only [wpOps];cases d:ops[i]? with
  | none=>rw [d] at h; exact Ch.plain b h
  | some o =>
   rw [d] at h;simp only at h ⊢;split
   ·rename_i c;rw [if_pos c] at h;rcases h with h | h
    ·exact .inl<|zF h λa w ⟨_,e⟩=>Ch.plain b e
    ·exact .inr h
   ·rename_i c;rw [if_neg c] at h;exact Ch.plain b h
theorem DG {N:World->Prop}{S:List Nat}{i d:Nat}(s:ml Q d){o:Oper}{v:Value}(A:ops[i]?=some o) (Ea:o.dst=some d){wt:Bool}(B:wt=false->v=undef) :
  ∀ (b c:List Nat) (fr:List Value) (ds:List Deferred) (w:World) (Wa:List Mon),
   (∀ j ∈ b,j ∉ S/\match ops[j]? with
    | some p=>zr p.op=true/\(reads ops p).contains d=false/\p.dst≠some d/\(∀ e,p.dst=some e->(reads ops o).contains e=false)
    | none=>True) ->
   N w->ud Wa w->zr o.op=true->Region.wanted o (yielded ops (F fr ds).tmps)=wt ->
   (wt=true->∀ ds w,N w->(execOp (F fr ds).eval o).run P w=.ok (.value v) w) ->
   Ch P ops Q ((S,N)::Wa) (b++c) (F (fr.set d v) ds) w->Ch P ops Q Wa (b++i::c) (F fr ds) w
 | [],c,fr,ds,w,Wa,_,hw,t,u,l,z,h=>by
  simp only [List.nil_append] at h ⊢;have h:=Ch.mono c h (Ns':=Hi i Wa) λm V=>List.mem_cons_of_mem _ (RA m V);simp only [Ch,A];cases wt with
  | true =>
   rw [if_pos l];left;unfold Oper.wp;rw [z rfl ds w hw,Oper.upon_value,Ea];rw [show (F fr ds).put (some d) v=F (fr.set d v) ds from wa rfl ds];exact ⟨t.sub RA,h⟩
  | false =>
   rw [if_neg (by rw [l];simp),Ea,<- B rfl];rw [show (F fr ds).put (some d) v=F (fr.set d v) ds from wa rfl ds];exact h
 | j::b,c,fr,ds,w,Wa,K,hw,t,u,l,z,h=>by
  obtain ⟨W,C⟩:=K j (by simp);have L:∀ k ∈ b,_:=λk n=>K k (by simp [n]);have X:Hi j ((S,N)::Wa)=(S,N)::Hi j Wa:=by simp [Hi,W]
  simp only [List.cons_append,Ch,X] at h ⊢;cases M:ops[j]? with
  | none =>
   rw [M] at h;simp only at h ⊢;exact DG s A Ea B b c fr ds w _ L hw (t.sub RA) u l z h
  | some p =>
   rw [M] at h C;simp only at h C ⊢;obtain ⟨O,D,Y,R⟩:=C;rw [uN (fr:=fr) (v:=v) (ds:=ds) (ds':=ds) D] at h;have key:∀ (x:Value) (w':World) (ds':List Deferred),N w'->ud (Hi j Wa) w'->Ch P ops Q ((S,N)::Hi j Wa) (b++c) ((F (fr.set d v) ds').put p.dst x) w'->Ch P ops Q (Hi j Wa) (b++i::c) ((F fr ds').put p.dst x) w':=by
    intro x w' ds' Z bb n;obtain ⟨g,g1,g2,g3⟩:=put_eq fr ds' p.dst x;have Gb:=wanted_put (ops:=ops) (o:=o) (p:=p) (ds':=ds') (λy E=>g3 fr y ds' ds' E) R;rw [g1] at n ⊢;rw [g2 _ _ _ Y] at n;refine DG s A Ea B b c (g fr) ds' w' _ L Z bb u (Gb.trans l) (λgc q lc rc=>?_) n;rw [show execOp (F (g fr) q).eval o=execOp (F fr q).eval o from execOp_congr o u λy E=>g3 fr y q q λe a fd=>by
     exact SI (R e a) y E fd]
    exact z gc q lc rc
   by_cases T:Region.wanted p (yielded ops (F fr ds).tmps)=true
   ·rw [if_pos T] at h ⊢;rcases h with h | h
    ·left;unfold Oper.wp at h ⊢;rw [TI (ds':=ds) O D] at h;cases U:(execOp (F fr ds).eval p).run P w with
     | halt e w' =>
      rw [U] at h;cases e<;>first | exact h | exact s _ _ _ _ _ h
     | ok r w' =>
      rw [U] at h;cases r with
      | value x=>exact ⟨h.1.2,key x w' ds h.1.1 h.1.2 h.2⟩
      | skip=>exact ⟨h.1.2,key undef w' ds h.1.1 h.1.2 h.2⟩
      | defer id=>exact ⟨h.1.2,key undef w' (id::ds) h.1.1 h.1.2 h.2⟩
      | enter f args =>
       rw [Oper.upon_enter] at h ⊢;refine Calls.mono h λe G a=>?_;cases e with
       | returned x=>exact ⟨a.1.2,key x G ds a.1.1 a.1.2 a.2⟩
       | panicked md=>exact s _ _ _ _ _ a
       | outgrown=>exact a
      | row r args =>
       rw [Oper.upon_row] at h ⊢;exact Rows.mono h λx G a=>⟨a.1.2,key x G ds a.1.1 a.1.2 a.2⟩
      | _=>exact h
    ·right;refine ⟨?_,h.2⟩;have H:=h.1;unfold Oper.asks at H ⊢;rw [TI (ds':=ds) O D] at H;exact H
   ·rw [if_neg T] at h ⊢;exact key undef w ds hw (t.sub RA) h
structure Zd (P:Program) (ops:Array Oper) (Q:Exit->Act->World->Prop) (Wa:List Mon) (R:List Nat) (fr:List Value) (ds:List Deferred) (w:World):Prop where
 out:ud Wa w->∀ a,Wl ops R a->Ch P ops Q Wa a (F fr ds) w
theorem BA {R:List Nat}(h:Zd P ops Q [] R fr ds w):gH P ops Q R fr ds w:=⟨λa b=>Ch.plain a (h.out trivial a b)⟩
theorem qy {Wa:List Mon}(h:Q .normal (F fr ds) w):Zd P ops Q Wa [] fr ds w:=⟨λ_ b a=>by
 cases a with
 | z=>exact h
 | s h _=>exact absurd (Ov h) (by simp)⟩
def jn (ops:Array Oper) (S R:List Nat) (i:Nat):Bool :=
 match ops[i]? with
 | some o=>match o.dst with
  | some d=>zr o.op && R.all λj=>S.contains j || (match ops[j]? with
    | some p=>zr p.op && !(reads ops p).contains d && p.dst != some d && (match p.dst with | some e=>!(reads ops o).contains e | none=>true)
    | none=>true)
  | _=>false
 | none=>false
theorem cy {Wa:List Mon}{R R':List Nat}{i:Nat}(S:List Nat) (N:World->Prop){wt:Bool}{dst:Tmp}{op:Op}{ty:TypeId}{pos:String}{after:Array Edge}{l:Option (Nat×Bool)}{v:Value}(C:ml Q dst) (m:(decide R.Nodup && enabled ops R i && waits ops R S i && jn ops S R i && S.contains i)=true) (D:R.erase i=R') (n:ops[i]?=some ⟨some dst,op,ty,pos,after,l⟩)
  (E:Region.wanted ⟨some dst,op,ty,pos,after,l⟩ (yielded ops (F fr ds).tmps)=wt) (G:wt=false->v=undef) (o:N w)
  (Pa:wt=true->∀ ds w',N w'->(execOp (F fr ds).eval ⟨some dst,op,ty,pos,after,l⟩).run P w'=.ok (.value v) w') (f:Zb fr dst v Aa) (h:Zd P ops Q ((S,N)::Wa) R' Aa ds w):Zd P ops Q Wa R fr ds w:=⟨λq W r=>by
 simp only [Bool.and_eq_true,decide_eq_true_eq] at m;obtain ⟨⟨⟨⟨s,t⟩,u⟩,g⟩,-⟩:=m;obtain ⟨x,y,rfl,H,z⟩:=r.split s (Ov t) t;have A:=Wl.later (S:=S) r s (λj d=>by
  unfold waits at u;have:=List.all_eq_true.1 u j d;simp only [Bool.or_eq_true,beq_iff_eq,List.any_eq_true,Bool.and_eq_true,List.contains_iff_mem] at this;rcases this with h | ⟨k,k1,K,L⟩
  ·exact .inl h
  ·exact .inr ⟨k,k1,K,L⟩) x y rfl (λM=>(z i M).2.1 rfl)
 unfold jn at g;simp only [n,Bool.and_eq_true,List.all_eq_true,Bool.or_eq_true,List.contains_iff_mem] at g;unfold Zb at f;subst f;subst D;refine DG C n rfl G (N:=N) (S:=S) (v:=v) x y fr ds w Wa (λj d=>⟨A j d,?_⟩) o q g.1 E Pa<|h.out ⟨o,q⟩ _ H;obtain ⟨a,b,c⟩:=z j d;have:=g.2 j a;rcases this with h | h
 ·exact absurd h<|A j d
 ·cases f:ops[j]? with
  | none=>trivial
  | some p =>
   rw [f] at h;simp only [Bool.and_eq_true,Bool.not_eq_true',bne_iff_ne,ne_eq] at h;obtain ⟨⟨⟨O,T⟩,U⟩,B⟩:=h;refine ⟨O,T,U,λe V=>?_⟩;rw [V] at B;simpa using B⟩
theorem ck {Wa:List Mon}{R R':List Nat}{i:Nat}(S:List Nat){dst:Tmp}{op:Op}{ty:TypeId}{pos:String}{after:Array Edge}{v:Value}(a:ml Q dst) (b:(decide R.Nodup && enabled ops R i && waits ops R S i && jn ops S R i && S.contains i)=true) (c:R.erase i=R') (d:ops[i]?=some ⟨some dst,op,ty,pos,after,none⟩)
  (Pa:lk P ⟨some dst,op,ty,pos,after,none⟩ fr w v) (e:Zb fr dst v Aa) (h:Zd P ops Q ((S,λw'=>lk P ⟨some dst,op,ty,pos,after,none⟩ fr w' v)::Wa) R' Aa ds w):Zd P ops Q Wa R fr ds w :=
 cy S _ (wt:=true) a b c d (ij rfl) (λh=>by cases h) Pa (λ_ ds w' f=>f.out ds) e h
theorem gK {Wa:List Mon}{R R':List Nat}{i j d:Nat}{b:Bool}(S:List Nat){dst:Tmp}{op:Op}{ty:TypeId}{pos:String}{after:Array Edge}{v:Value}(a:ml Q dst) (c:(decide R.Nodup && enabled ops R i && waits ops R S i && jn ops S R i && S.contains i)=true) (e:R.erase i=R') (f:ops[i]?=some ⟨some dst,op,ty,pos,after,some (j,b)⟩) (g:(ops[j]?).bind (·.dst)=some d) (ma:fc fr d (.bool b))
  (Pa:lk P ⟨some dst,op,ty,pos,after,some (j,b)⟩ fr w v) (k:Zb fr dst v Aa) (h:Zd P ops Q ((S,λw'=>lk P ⟨some dst,op,ty,pos,after,some (j,b)⟩ fr w' v)::Wa) R' Aa ds w):Zd P ops Q Wa R fr ds w :=
 cy S _ (wt:=true) a c e f (hn rfl g ma) (λh=>by cases h) Pa (λ_ ds w' l=>l.out ds) k h
theorem Ch.add {m:Mon}(d:∀ w,m.2 w):∀ (b:List Nat){Wa:List Mon}{a:Act}{w:World},Ch P ops Q Wa b a w->Ch P ops Q (m::Wa) b a w
 | [],_,_,_,h=>h
 | i::b,Wa,a,w,h=>by
  have f:Hi i (m::Wa)=m::Hi i Wa\/Hi i (m::Wa)=Hi i Wa:=by
   unfold Hi;rw [List.filter_cons];split
   ·exact .inl rfl
   ·exact .inr rfl
  have key:∀ {a w},Ch P ops Q (Hi i Wa) b a w->Ch P ops Q (Hi i (m::Wa)) b a w:=λh=>by
   rcases f with e | e<;>rw [e]
   ·exact Ch.add d b h
   ·exact h
  have j:∀ {w},ud (Hi i Wa) w->ud (Hi i (m::Wa)) w:=λh=>by
   rcases f with e | e<;>rw [e]
   ·exact ⟨d _,h⟩
   ·exact h
  simp only [Ch] at h ⊢;cases g:ops[i]? with
  | none=>rw [g] at h; exact key h
  | some o =>
   rw [g] at h;simp only at h ⊢;split
   ·rename_i c;rw [if_pos c] at h;rcases h with h | h
    ·exact .inl<|zF h λa w ⟨k,l⟩=>⟨j k,key l⟩
    ·exact .inr h
   ·rename_i c;rw [if_neg c] at h;exact key h
theorem AF {Wa:List Mon}{m:Mon}{R:List Nat}(b:∀ w,m.2 w) (h:Zd P ops Q Wa R fr ds w):Zd P ops Q (m::Wa) R fr ds w:=⟨λc a d=>Ch.add b a (h.out c.2 a d)⟩
theorem mg {Wa:List Mon}{R R':List Nat}{i:Nat}(S:List Nat){dst:Tmp}{op:Op}{ty:TypeId}{pos:String}{after:Array Edge}{v:Value}(a:ml Q dst) (b:(decide R.Nodup && enabled ops R i && waits ops R S i && jn ops S R i && S.contains i)=true) (c:R.erase i=R') (d:ops[i]?=some ⟨some dst,op,ty,pos,after,none⟩)
  (Pa:Cf P ⟨some dst,op,ty,pos,after,none⟩ fr v) (e:Zb fr dst v Aa) (h:Zd P ops Q Wa R' Aa ds w):Zd P ops Q Wa R fr ds w :=
 cy S (λ_=>True) (wt:=true) a b c d (ij rfl) (λh=>by cases h) trivial (λ_ ds w' _=>Pa.out ds w') e (AF (λ_=>trivial) h)
theorem hK {Wa:List Mon}{R R':List Nat}{i j d:Nat}{b:Bool}(S:List Nat){dst:Tmp}{op:Op}{ty:TypeId}{pos:String}{after:Array Edge}{v:Value}(a:ml Q dst) (c:(decide R.Nodup && enabled ops R i && waits ops R S i && jn ops S R i && S.contains i)=true) (e:R.erase i=R') (f:ops[i]?=some ⟨some dst,op,ty,pos,after,some (j,b)⟩) (g:(ops[j]?).bind (·.dst)=some d) (ma:fc fr d (.bool b))
  (Pa:Cf P ⟨some dst,op,ty,pos,after,some (j,b)⟩ fr v) (k:Zb fr dst v Aa) (h:Zd P ops Q Wa R' Aa ds w):Zd P ops Q Wa R fr ds w :=
 cy S (λ_=>True) (wt:=true) a c e f (hn rfl g ma) (λh=>by cases h) trivial (λ_ ds w' _=>Pa.out ds w') k (AF (λ_=>trivial) h)
theorem IS {Wa:List Mon}{R R':List Nat}{i j d:Nat}{b Qc:Bool}(S:List Nat){dst:Tmp}{op:Op}{ty:TypeId}{pos:String}{after:Array Edge}(a:ml Q dst) (c:(decide R.Nodup && enabled ops R i && waits ops R S i && jn ops S R i && S.contains i)=true) (e:R.erase i=R') (f:ops[i]?=some ⟨some dst,op,ty,pos,after,some (j,b)⟩) (g:(ops[j]?).bind (·.dst)=some d) (ma:fc fr d (.bool Qc)) (k:(Qc == b)=false)
  (l:Zb fr dst undef Aa) (h:Zd P ops Q Wa R' Aa ds w):Zd P ops Q Wa R fr ds w :=
 cy S (λ_=>True) (wt:=false) a c e f ((WI rfl g ma).trans k) (λ_=>rfl) trivial (λh=>by cases h) l (AF (λ_=>trivial) h)
structure uu (P:Program) (ops:Array Oper) (Q:Exit->Act->World->Prop) (Wa:List Mon) (R:List Nat) (fr:List Value) (ds:List Deferred) (w:World):Prop where
 m:ud Wa w
 s:Zd P ops Q Wa R fr ds w
theorem ud.s {m:Mon}{l:List Mon}(h:m.2 w) (k:ud l w):ud (m::l) w:=⟨h,k⟩
theorem ud.z:ud [] w:=trivial
theorem iK {Wa:List Mon}{R:List Nat}(c:R≠[]) (h:∀ i ∈ pB ops R,∃ o,ops[i]?=some o/\Region.wanted o (yielded ops (F fr ds).tmps)=true/\yd P o fr ds w (uu P ops Q (Hi i Wa) (R.erase i)) Q):Zd P ops Q Wa R fr ds w:=⟨λk d e=>by
 cases e with
 | z=>exact absurd rfl c
 | @s _ d i b f =>
  obtain ⟨o,g,hw,j⟩:=h i (List.mem_filter.2 ⟨Ov b,b⟩);simp only [Ch,g];rw [if_pos hw];exact .inl (j.out _ λAa ds' w' a=>⟨a.m,a.s.out a.m _ f⟩)⟩
theorem vi {Wa Ns':List Mon}{R:List Nat}{i:Nat}{R':List Nat}{o:Oper}(b:pB ops R=[i]) (c:R.erase i=R') (Ea:Hi i Wa=Ns') (d:ops[i]?=some o) (f:Region.wanted o (yielded ops (F fr ds).tmps)=true)
  (h:yd P o fr ds w (uu P ops Q Ns' R') Q):Zd P ops Q Wa R fr ds w :=
 iK (by intro e;subst e;cases b) λk a=>by
  rw [b] at a;simp at a;subst a;exact ⟨_,d,f,by rw [c,Ea];exact h⟩
theorem VG {Wa d f:List Mon}{R:List Nat}{i j:Nat}{g h:List Nat}{a b:Oper}(l:pB ops R=[i,j]) (m:R.erase i=g) (n:R.erase j=h) (o:Hi i Wa=d) (p:Hi j Wa=f) (q:ops[i]?=some a) (r:ops[j]?=some b) (s:Region.wanted a (yielded ops (F fr ds).tmps)=true) (t:Region.wanted b (yielded ops (F fr ds).tmps)=true)
  (u:yd P a fr ds w (uu P ops Q d g) Q) (v:yd P b fr ds w (uu P ops Q f h) Q):Zd P ops Q Wa R fr ds w :=
 iK (by intro e;subst e;cases l) λk c=>by
  rw [l] at c;simp at c;rcases c with rfl | rfl
  ·exact ⟨_,q,s,by rw [m,o];exact u⟩
  ·exact ⟨_,r,t,by rw [n,p];exact v⟩
theorem PL {Wa:List Mon}{R:List Nat}{Fi Gi:List Value}{d:Nat}{b:Bool}(ma:fc fr d (.bool b)) (a:Zb fr d (.bool true) Fi) (c:Zb fr d (.bool false) Gi)
  (e:b=true->Zd P ops Q Wa R Fi ds w) (f:¬ b=true->Zd P ops Q Wa R Gi ds w):Zd P ops Q Wa R fr ds w:=by
 cases b with
 | true=>have:=e rfl; rw [Zb.same ma a] at this; exact this
 | false=>have:=f (by simp); rw [Zb.same ma c] at this; exact this
theorem Gr {Wa:List Mon}{R:List Nat}{Fi Gi:List Value}{d:Nat}{p:Prop}[Decidable p] (ma:fc fr d (.bool (decide p))) (a:Zb fr d (.bool true) Fi) (b:Zb fr d (.bool false) Gi)
  (c:p->Zd P ops Q Wa R Fi ds w) (e:¬ p->Zd P ops Q Wa R Gi ds w):Zd P ops Q Wa R fr ds w :=
 PL ma a b (λh=>c (of_decide_eq_true h)) (λh=>e λf=>h (decide_eq_true f))
end
end Go.Mc
namespace Go.Kf
open Go.Mc Go.RowKit
section
variable {P:Program}{Q:Exit->Act->World->Prop}{K:List Value->List Deferred->World->Prop}{fr Aa:List Value}{ds:List Deferred}{w:World}
variable {dst:Option Tmp}{ty:TypeId}{pos:String}{after:Array Edge}{g:Option (Nat×Bool)}
variable {da:World}{rs rs':List Ha}{μ J:M}
variable {T:TypeId}{d:TypeDesc}{pc:Bool}{Dc:List Value}{n m:Nat}
theorem jK {e:TypeId}{S Ic:Nat->Prop}{A:World->Prop}(c:P.underlying T=some (.slice e)) (a:wb P e pc Dc n m) (d:Sep S Ic da w rs A)
  (h:∀ b w',w.heap.size<=b->Sep S Ic da w' (.ea b e []::rs) A->Rg fr dst (.slice (some ⟨b,0,none⟩) 0 0) λAa=>K Aa ds w'):yd P (Oper.mk dst (.buildSlice T 0 ⟨[]⟩) ty pos after g) fr ds w K Q:=by
 obtain ⟨Aa,Ea⟩:=Xi fr dst (.slice (some ⟨w.heap.size,0,none⟩) 0 0);refine Qh (v:=.slice (some ⟨w.heap.size,0,none⟩) 0 0) (w':=w.alloc (.cells ⟨[]⟩ e)) ?_ Ea<|h _ _ (Nat.le_refl _) (d.alloc rfl<|heap_alloc_new w _) Aa Ea;have f:=a.sizeOf (w:=w);obtain ⟨z,i,j⟩:=a.zero (w:=w);simp [execOp,Instr.buildSlice,Sem.run_bind,run_underlying c,Result.andThen_ok,f,newRow,Instr.fill];have qb:Array.range 0=#[]:=Array.eq_empty_of_size_eq_zero (by simp);rw [qb,Array.map_empty]
theorem pH {t ty:TypeId}{sz bytes:Nat}(b:P.underlying t=some (.slice T)) (e:wb P T pc Dc sz bytes){v:Value}{xs:List Value}(f:Row w v T sz n xs){a:Option Addr}{c:Nat} :
  (Builtin.append_ #[t,t] ty #[v,.slice a 0 c]).run P w=.ok v w:=by
 have d:=e.sizeOf (w:=w);rcases f.2 with ⟨rfl,rfl⟩ | ⟨g,o,cap,cur,rfl,i,h,j,k,l⟩
 ·cases a<;>simp [Builtin.append_,run_underlying b,d,Builtin.lenOf,Builtin.firstCells,loadCells,loadCellsFrom]
 ·cases a<;>simp [Builtin.append_,run_underlying b,d,Builtin.lenOf,Builtin.firstCells,h,storeCells,loadCells,loadCellsFrom]
theorem tr {α:Type}[Ma α]{t:TypeId}{s x:Operand}{v:Value}{bytes k c:Nat}{a:Option Addr}{cells news:List Value}{l ys Ba:List α}(j:P.underlying t=some (.slice T)) (m:wb P T pc Dc (Ma.sz α) bytes) (u:Dc.length=Ma.sz α)
  (n:ab fr s v) (p:ab fr x (.slice a ys.length c)) (f:fa μ da w rs) (ma:fc rs k (.row v T (Ma.sz α) l.length cells)) (y:ys≠[]->∃ b o,a=some ⟨b,o,none⟩/\xa μ b o news) (d:qa μ news ys) (z:app l ys=some Ba) (A:bytes<=4096)
  (h:∀ i w' rs',Zb rs k (.row i T (Ma.sz α) Ba.length (cells++news)) rs'->fa μ da w' rs'->Rg fr dst i λAa=>K Aa ds w') :
  yd P (Oper.mk dst (.call { callee:=.builtin .append,args:=#[s,x],argTypes:=#[t,t] }) ty pos after g) fr ds w K Q:=by
 obtain ⟨q,B⟩:=PA z;by_cases r:ys=[]
 ·subst r;obtain rfl:news=[]:=d;have C:Row w v T (Ma.sz α) l.length cells:=f.get ma;obtain ⟨Aa,Ea⟩:=Xi fr dst v;have D:=h v w rs (by
   have:Ba.length=l.length:=by simpa using q
   rw [this,List.append_nil];unfold Zb;obtain ⟨E,e⟩:=List.getElem?_eq_some_iff.1 (show rs[k]?=_ from ma);rw [<- e];exact List.set_getElem_self E) f
  refine Qh (v:=v) (w':=w) ?_ Ea<|D Aa Ea;have ua:=n ds;have F:=p ds;have d:=pH (P:=P) (ty:=ty) (a:=a) (c:=c) j m C;simp [execOp,resolve,invoke,builtin,ua,F,d]
 ·obtain ⟨b,o,rfl,G⟩:=y r;exact Gu j m (by simp [u,Ma.pos]) n p f ma (G _ f.a) d.len d.pg ⟨B,A⟩ λi w' rs' H=>h i w' rs' (by rw [q];exact H)
end
end Go.Kf
