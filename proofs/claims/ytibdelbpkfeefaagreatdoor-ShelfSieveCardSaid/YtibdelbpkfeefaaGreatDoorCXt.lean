/- Texts of Xt. -/
import Derived.Test.YtibdelbpkfeefaaGreatDoorCWk
import Derived.LoopN
import Derived.KernelRfl
set_option linter.unusedSimpArgs false
set_option linter.unusedVariables false
set_option linter.unusedSectionVars false
namespace Go.Xc
open Go.bc Go.RowKit
abbrev M:=World→Prop
def da (μ I:M):Prop:=∀ w,I w→μ w
theorem da.r {μ:M}:da μ μ:=fun _ h=>h
theorem da.t {a b c:M}(h:da a b) (k:da b c):da a c:=fun w x=>h w (k w x)
abbrev ka (μ:M) (w0 w:World) (rs:List jb):Prop:=Sep (fun _=>False) (fun _=>True) w0 w rs μ
def tc (μ:M) (b o:Nat) (cs:List Value):Prop:=∀ w,μ w→ui w b o cs
theorem tc.up {μ I:M}{b o:Nat}{cs:List Value}(h:tc μ b o cs) (l:da μ I):tc I b o cs:=fun w k=>h w (l w k)
class Va (α:Type) where
 sz:Nat
 pos:0<sz
 cs:M→List Value→α→Prop
 fh:∀ {μ:M}{l:List Value}{x:α},cs μ l x→l.length=sz
 up:∀ {μ I:M}{l:List Value}{x:α},da μ I→cs μ l x→cs I l x
 sg:∀ {μ:M}{l:List Value}{x:α},cs μ l x→l.all ee=true
structure Rc {α:Type}(sz:Nat) (R:List Value→α→Prop) (μ:M) (a:Option Addr) (c:Nat) (xs:List α):Prop where
 le:xs.length≤c
 cap:c≤maxLen
 el:xs=[]∨∃ b o,a=some ⟨b,o,none⟩∧∃ g:Nat→List Value,∀ i x,xs[i]?=some x→tc μ b (o+i*sz) (g i)∧R (g i) x
abbrev Ca {α:Type}[Va α] (μ:M) (a:Option Addr) (c:Nat) (xs:List α):Prop:=Rc (Va.sz α) (Va.cs μ) μ a c xs
theorem Rc.imp {α:Type}{sz:Nat}{R R':List Value→α→Prop}{μ I:M}{a:Option Addr}{c:Nat}{xs:List α}(h:Rc sz R μ a c xs) (l:da μ I) (f:∀ (i:Nat) (cs:List Value) (x:α),xs[i]?=some x→R cs x→R' cs x):Rc sz R' I a c xs where
 le:=h.le
 cap:=h.cap
 el:=by
  rcases h.el with h | ⟨b,o,j,g,e⟩
  ·exact .inl h
  ·exact .inr ⟨b,o,j,g,fun i x d=>⟨(e i x d).1.up l,f i _ x d (e i x d).2⟩⟩
theorem Ca.up {α:Type}[Va α]{μ I:M}{a:Option Addr}{c:Nat}{xs:List α}(h:Ca μ a c xs) (l:da μ I):Ca I a c xs:=Rc.imp h l fun _ _ _ _=>Va.up l
theorem Ca.nil {α:Type}[Va α]{μ:M}{a:Option Addr}:Ca (α:=α) μ a 0 []:=⟨by simp,by simp,.inl rfl⟩
theorem Ca.len {α:Type}{sz:Nat}{R:List Value→α→Prop}{μ:M}{a:Option Addr}{c:Nat}{xs:List α}(h:Rc sz R μ a c xs):xs.length≤9223372036854775807:=Nat.le_trans h.le h.cap
instance:Va Int where
 sz:=1
 pos:=by decide
 cs _ l x:=l=[.int .i64 x]
 fh h:=by rw [h];rfl
 up _ h:=h
 sg h:=by rw [h];rfl
instance:Va Bool where
 sz:=1
 pos:=by decide
 cs _ l x:=l=[.bool x]
 fh h:=by rw [h];rfl
 up _ h:=h
 sg h:=by rw [h];rfl
instance {α:Type}[Va α]:Va (List α) where
 sz:=1
 pos:=by decide
 cs μ l xs:=∃ a c,l=[.slice a xs.length c]∧Ca μ a c xs
 fh h:=by obtain ⟨a,c,rfl,-⟩:=h;rfl
 up l h:=by obtain ⟨a,c,b,d⟩:=h;exact ⟨a,c,b,d.up l⟩
 sg h:=by obtain ⟨a,c,rfl,-⟩:=h;rfl
instance:Va (List UInt8) where
 sz:=1
 pos:=by decide
 cs _ l x:=l=[S x]
 fh h:=by rw [h];rfl
 up _ h:=h
 sg h:=by rw [h];rfl
def i64 (n:Int):Option Int:=if -9223372036854775808≤n∧n≤9223372036854775807 then some n else none
def Jn (n:Int):Int:=IntKind.i64.wrap n
def at_ {α:Type}(l:List α) (i:Int):Option α:=if 0≤i then l[i.toNat]? else none
def cut {α:Type}(l:List α) (i j:Int):Option (List α):=if 0≤i∧i≤j∧j≤l.length then some ((l.take j.toNat).drop i.toNat) else none
def cat (a b:List UInt8):Option (List UInt8):=if a.length+b.length≤9223372036854775807 then some (a++b) else none
def app {α:Type}(l:List α) (xs:List α):Option (List α):=if l.length+xs.length≤4294967296 then some (l++xs) else none
def quo (a b:Int):Option Int:=if b=0 then none else some (Jn (a.tdiv b))
theorem fa {α β:Type}{o:Option α}{f:α→Option β}{r:β}(h:Option.bind o f=some r):∃ x,o=some x∧f x=some r:=Option.bind_eq_some_iff.1 h
theorem cg {α:Type}{c:Prop}[Decidable c]{x y:α}{r:α}(hc:c) (h:(if c then x else y)=r):x=r:=by rwa [if_pos hc] at h
theorem Yb {α:Type}{c:Prop}[Decidable c]{x y:α}{r:α}(hc:¬ c) (h:(if c then x else y)=r):y=r:=by rwa [if_neg hc] at h
theorem FG {n x:Int}(h:i64 n=some x):x=n∧-9223372036854775808≤n∧n≤9223372036854775807:=by
 unfold i64 at h;split at h
 ·rename_i hc;exact ⟨(Option.some.inj h).symm,hc⟩
 ·cases h
theorem yw {n x:Int}(h:i64 n=some x):IntKind.i64.wrap n=x:=by
 obtain ⟨rfl,a,b⟩:=FG h;exact wr (by omega)
theorem oq {α:Type}{l:List α}{i:Int}{x:α}(h:at_ l i=some x):0≤i∧i<l.length∧l[i.toNat]?=some x:=by
 unfold at_ at h;split at h
 ·rename_i hc;refine ⟨hc,?_,h⟩;have:=(List.getElem?_eq_some_iff.1 h).1;omega
 ·cases h
theorem Fo {α:Type}{l ys:List α}{i j:Int}(h:cut l i j=some ys):(0≤i∧i≤j∧j≤l.length)∧ys=(l.take j.toNat).drop i.toNat:=by
 unfold cut at h;split at h
 ·rename_i hc;exact ⟨hc,(Option.some.inj h).symm⟩
 ·cases h
theorem GG {a b c:List UInt8}(h:cat a b=some c):c=a++b∧a.length+b.length≤9223372036854775807:=by
 unfold cat at h;split at h
 ·rename_i hc;exact ⟨(Option.some.inj h).symm,hc⟩
 ·cases h
theorem Yt {α:Type}{a b c:List α}(h:app a b=some c):c=a++b∧a.length+b.length≤4294967296:=by
 unfold app at h;split at h
 ·rename_i hc;exact ⟨(Option.some.inj h).symm,hc⟩
 ·cases h
structure Ei (v:Value) (sz:Nat) (i:Int) (b o:Nat):Prop where
 out:∃ a n c,v=.slice (some ⟨b,a,none⟩) n c∧0≤i∧i<n∧a+i.toNat*sz=o
theorem Rc.elem {α:Type}{sz:Nat}{R:List Value→α→Prop}{μ:M}{a:Option Addr}{c:Nat}{xs:List α}{i:Int}{x:α}(h:Rc sz R μ a c xs) (g:at_ xs i=some x) :
  ∃ b o cs,Ei (.slice a xs.length c) sz i b o∧tc μ b o cs∧R cs x:=by
 obtain ⟨j,k,d⟩:=oq g;rcases h.el with rfl | ⟨b,o,rfl,f,e⟩
 ·simp at d
 ·exact ⟨b,_,f i.toNat,⟨o,_,_,rfl,j,k,rfl⟩,(e _ _ d).1,(e _ _ d).2⟩
def na {α:Type}[Va α] (μ:M):List Value→List α→Prop
 | cells,[]=>cells=[]
 | cells,x::l=>∃ cs t,cells=cs++t∧Va.cs μ cs x∧na μ t l
theorem na.len {α:Type}[Va α]{μ:M}:∀ {l:List α}{cells:List Value},na μ cells l→cells.length=l.length*Va.sz α
 | [],cells,h=>by rw [na] at h; simp [h]
 | x::l,cells,h=>by
  rw [na] at h;obtain ⟨cs,t,rfl,a,b⟩:=h;simp [na.len b,Va.fh a,Nat.add_mul,Nat.add_comm]
theorem na.up {α:Type}[Va α]{μ I:M}(a:da μ I):∀ {l:List α}{cells:List Value},na μ cells l→na I cells l
 | [],cells,h=>by rw [na] at h ⊢; exact h
 | x::l,cells,h=>by
  rw [na] at h ⊢;obtain ⟨cs,t,b,c,d⟩:=h;exact ⟨cs,t,b,Va.up a c,na.up a d⟩
theorem na.cat {α:Type}[Va α]{μ:M}{b:List α}{a:List Value}(k:na μ a b):∀ {l:List α}{cells:List Value},na μ cells l→na μ (cells++a) (l++b)
 | [],cells,h=>by rw [na] at h; subst h; exact k
 | x::l,cells,h=>by
  rw [na] at h;obtain ⟨cs,t,rfl,c,d⟩:=h;rw [List.cons_append,na];exact ⟨cs,t++a,by simp,c,na.cat k d⟩
theorem na.nil {α:Type}[Va α]{μ:M}:na μ [] ([]:List α):=rfl
theorem na.one {α:Type}[Va α]{μ:M}{cs:List Value}{x:α}(h:Va.cs μ cs x):na μ cs [x]:=⟨cs,[],by simp,h,rfl⟩
theorem na.cons {α:Type}[Va α]{μ:M}{cs t:List Value}{x:α}{l:List α}(h:Va.cs μ cs x) (k:na μ t l):na μ (cs++t) (x::l):=⟨cs,t,rfl,h,k⟩
theorem na.sg {α:Type}[Va α]{μ:M}:∀ {l:List α}{cells:List Value},na μ cells l→cells.all ee=true
 | [],cells,h=>by rw [na] at h; simp [h]
 | x::l,cells,h=>by
  rw [na] at h;obtain ⟨cs,t,rfl,a,b⟩:=h;rw [List.all_append,Va.sg a,na.sg b];rfl
theorem na.get {α:Type}[Va α]{μ:M}:∀ {l:List α}{cells:List Value}{i:Nat}{x:α},na μ cells l→l[i]?=some x→Va.cs μ ((cells.drop (i*Va.sz α)).take (Va.sz α)) x
 | [],cells,i,x,h,a=>by simp at a
 | y::l,cells,i,x,h,a=>by
  rw [na] at h;obtain ⟨cs,t,rfl,b,c⟩:=h;cases i with
  | zero=>simp at a; subst a; simp [← Va.fh b]; exact b
  | succ i =>
   simp at a;have:=na.get c a;have e:(i+1)*Va.sz α=cs.length+i*Va.sz α:=by rw [Nat.add_mul,Va.fh b];omega
   rw [e,← List.drop_drop];simpa using this
theorem Ca.cells {α:Type}[Va α]{μ:M}{a:Option Addr}{c:Nat}:∀ {xs:List α},Ca μ a c xs→∃ cells,na μ cells xs∧(xs≠[]→∃ b o,a=some ⟨b,o,none⟩∧tc μ b o cells):=by
 intro xs h;rcases h.el with rfl | ⟨b,o,rfl,g,p⟩
 ·exact ⟨[],rfl,fun h=>absurd rfl h⟩
 ·have key:∀ (l:List α) (k:Nat),xs.drop k=l→∃ cells,na μ cells l∧tc μ b (o+k*Va.sz α) cells:=by
   intro l
   induction l with
   | nil=>intro k _; exact ⟨[],rfl,fun w _ j v d=>by simp at d⟩
   | cons x l q =>
    intro k m;have r:xs[k]?=some x:=by
     have:=congrArg (fun l=>l[0]?) m;simpa using this
    obtain ⟨cells,f,i⟩:=q (k+1) (by rw [← List.tail_drop,m];rfl);obtain ⟨s,n⟩:=p k x r;refine ⟨g k++cells,na.cons n f,fun w hw j v d=>?_⟩;rcases Nat.lt_or_ge j (g k).length with e | e
    ·rw [List.getElem?_append_left e] at d;exact s w hw j v d
    ·rw [List.getElem?_append_right e] at d;have:=i w hw _ v d;rw [Va.fh n] at this e;rw [show o+(k+1)*Va.sz α+(j - Va.sz α)=o+k*Va.sz α+j by rw [Nat.add_mul];omega] at this;exact this
  obtain ⟨cells,f,i⟩:=key xs 0 rfl;exact ⟨cells,f,fun _=>⟨b,o,rfl,by simpa using i⟩⟩
section
variable {P:Program}{Q:Exit→Act→World→Prop}{K:List Value→List Deferred→World→Prop}{fr U:List Value}{ds:List Deferred}{w:World}
variable {dst:Option Tmp}{ty:TypeId}{pos:String}{after:Array Edge}{g:Option (Nat×Bool)}
variable {w0:World}{rs rs':List jb}{μ:M}
variable {T:TypeId}{d:TypeDesc}{zf:Bool}{td:List Value}{n m:Nat}
theorem Gc {c:Code}(f:List Nat) (i:f.Nodup) (d:List lb→World→Prop) (j:∀ m w,d m w→opens m=f)
  (h:Ee P c (Exit.then (fun n w'=>∃ m U,n=F U ds∧Fe m fr U∧d m w') Q) fr ds w)
  (k:∀ m t w,d m w→Q .normal (F (Wh t m fr) ds) w):Ee P c Q fr ds w:=⟨
 wp_mono h.out fun e a w' b=>by
  cases e with
  | normal =>
   obtain ⟨m,U,rfl,o,g⟩:=b;obtain ⟨Wc,p⟩:=o.ex (by rw [j m w' g];exact i);have:=k m Wc w' g;rw [← p] at this;exact this
  | exit id=>exact b
  | goto l=>exact b
  | ret=>exact b
  | panic q=>exact b
  | outgrown=>exact b⟩
theorem Je {c:Code}(f:List Nat) (k:f.Nodup) (b:Nat→List lb→World→Prop) (h:∀ n m w,b n m w→opens m=f) (g:Nat) (m0:List lb) (l:Fe m0 fr fr) (i:b g m0 w)
  (round:∀ n m t w,b n m w→Ee P c (Exit.then (fun o w'=>∃ d e U,o=F U ds∧Fe e fr U∧b d e w'∧d<n) Q) (Wh t m fr) ds w):Ee P (.loop c) Q fr ds w:=by
 refine AH (α:={ p:Nat×List lb // opens p.2=f }) f k (fun p=>p.1.2) (fun p=>p.2) (fun p w=>b p.1.1 p.1.2 w) (fun p _=>p.1.1) ⟨(g,m0),h g m0 w i⟩ l i fun p t w q=>?_;refine (round p.1.1 p.1.2 t w q).mono (bE fun a w' ⟨d,e,U,r,s,j,u⟩=>⟨⟨(d,e),h d e w' j⟩,U,r,s,j,u⟩)
theorem Ch {c:Operand}{x y:Code}{b:Bool}(hc:db fr c (.bool b)) (a:b=true→Ee P x Q fr ds w) (d:¬ b=true→Ee P y Q fr ds w):Ee P (.cond c x y) Q fr ds w :=
 kz hc a fun h=>d (by rw [h];simp)
theorem El {c:Operand}{x y:Code}{b:Bool}(hc:db fr c (.bool (!b))) (a:¬ b=true→Ee P x Q fr ds w) (d:b=true→Ee P y Q fr ds w):Ee P (.cond c x y) Q fr ds w :=
 kz hc (fun h=>a (by simpa using h)) fun h=>d (by simpa using h)
theorem wI {ops:Array Oper}{l:List Oper}{Oh Ph:List Value}{d:Nat}{b:Bool}(a:oc fr d (.bool b)) (c:sc fr d (.bool true) Oh) (e:sc fr d (.bool false) Ph)
  (f:b=true→Gf P ops Q l Oh ds w) (g:¬ b=true→Gf P ops Q l Ph ds w):Gf P ops Q l fr ds w:=lz a c e f fun h=>g (by rw [h];simp)
theorem TB {ops:Array Oper}{l:List Oper}{Oh Ph:List Value}{d:Nat}{b:Bool}(a:oc fr d (.bool (!b))) (c:sc fr d (.bool true) Oh) (e:sc fr d (.bool false) Ph)
  (f:¬ b=true→Gf P ops Q l Oh ds w) (g:b=true→Gf P ops Q l Ph ds w):Gf P ops Q l fr ds w:=lz a c e (fun h=>f (by simpa using h)) fun h=>g (by simpa using h)
inductive yd:List jb→Nat→List jb→Prop where
 | z {rs:List jb}:yd rs 0 rs
 | s {a r:jb} {rs rs':List jb} {k:Nat} (h:yd rs k (r::rs')):yd (a::rs) (k+1) (r::a::rs')
theorem yd.perm {k:Nat}{rs rs':List jb}(h:yd rs k rs'):rs.Perm rs':=by
 induction h with
 | z=>exact .refl _
 | s _ a=>exact (a.cons _).trans (.swap _ _ _)
theorem _root_.Go.bc.Sep.ca {k:Nat}{S Gd:Nat→Prop}{A:World→Prop}(h:Sep S Gd w0 w rs A) (a:yd rs k rs'):Sep S Gd w0 w rs' A where
 keeps:=h.keeps
 all r d:=h.all r (a.perm.mem_iff.2 d)
 Xh:=(a.perm.filterMap _).nodup_iff.1 h.Xh
 new b e:=h.new b ((a.perm.filterMap _).mem_iff.2 e)
 si:=h.si.mono fun k _ c=>⟨c.1,fun hm=>c.2 ((a.perm.filterMap jb.block).mem_iff.2 hm)⟩
theorem _root_.Go.bc.Sep.Du {r:jb}{B:World→Prop}(h:ka μ w0 w (r::rs)) (a:∀ w,r.holds w→B w):ka (fun w=>μ w∧B w) w0 w rs :=
 Sep.freeze h (d0 (α:=jb)) ha.z (fun _ _=>.inl trivial) a
theorem _root_.Go.bc.Sep.qi {α:Type}[Va α]{v:Value}{cells:List Value}{l:List α}(h:ka μ w0 w (.row v T (Va.sz α) n cells::rs)) (m:na μ cells l) (e:l.length=n) :
  ∃ I a c,v=.slice a l.length c∧da μ I∧Ca I a c l∧ka I w0 w rs:=by
 have p:Row w v T (Va.sz α) n cells:=h.all _ (List.mem_cons_self ..);have f:=Sep.Du (B:=fun w=>Row w v T (Va.sz α) n cells) h fun w hw=>hw;have hle:da μ (fun w=>μ w∧Row w v T (Va.sz α) n cells):=fun w hw=>hw.1;rcases p.2 with ⟨rfl,rfl⟩ | ⟨g,o,cap,cur,rfl,A,q,r,C,D⟩
 ·obtain rfl:=List.eq_nil_of_length_eq_zero e;exact ⟨_,none,0,rfl,hle,Ca.nil,f⟩
 ·subst e;refine ⟨_,some ⟨g,o,none⟩,cap,rfl,hle,⟨q,r,.inr ⟨g,o,rfl,fun i=>(cells.drop (i*Va.sz α)).take (Va.sz α),fun i x k=>⟨?_,?_⟩⟩⟩,f⟩
  ·intro F s j u d;obtain ⟨-,t⟩:=s;have y:0<l.length:=by have:=(List.getElem?_eq_some_iff.1 k).1;omega
   obtain ⟨b,G,c,Nb,hc⟩:=t.Xk y;simp at Nb;obtain ⟨⟨rfl,rfl⟩,rfl⟩:=Nb;have z:j<Va.sz α:=by
    have:=(List.getElem?_eq_some_iff.1 d).1;simp at this;omega
   rw [List.getElem?_take_of_lt z,List.getElem?_drop] at d;have:=hc _ u d;rw [← Nat.add_assoc] at this;exact this
  ·exact Va.up hle (m.get k)
theorem _root_.Go.bc.Sep.lh {α:Type}[Va α]{b:Nat}{cells:List Value}{l:List α}(h:ka μ w0 w (.ba b T cells::rs)) (c:na μ cells l) (hlen:l.length≤maxLen) :
  ∃ I,da μ I∧Ca I (some ⟨b,0,none⟩) l.length l∧ka I w0 w rs:=by
 have d:=Sep.Du (B:=fun w=>Mi w b T cells) h fun w hw=>hw;have hle:da μ (fun w=>μ w∧Mi w b T cells):=fun w hw=>hw.1;refine ⟨_,hle,⟨Nat.le_refl _,hlen,.inr ⟨b,0,rfl,fun i=>(cells.drop (i*Va.sz α)).take (Va.sz α),fun i x e=>⟨?_,Va.up hle (c.get e)⟩⟩⟩,d⟩;intro k f j u a;have g:j<Va.sz α:=by
  have:=(List.getElem?_eq_some_iff.1 a).1;simp at this;omega
 rw [List.getElem?_take_of_lt g,List.getElem?_drop] at a;have:=f.2.cells _ u a;rw [Nat.zero_add] at this ⊢;exact this
theorem _root_.Go.bc.Sep.Fl {b:Nat}{cells:List Value}(h:ka μ w0 w (.ba b T cells::rs)):∃ I,da μ I∧tc I b 0 cells∧ka I w0 w rs :=
 ⟨_,fun _ hw=>hw.1,fun _ hw=>hw.2.cells,Sep.Du (B:=fun w=>Mi w b T cells) h fun _ hw=>hw⟩
theorem _root_.Go.bc.Sep.Om {sz:Nat}{b k:Nat}{cells:List Value}{S Gd:Nat→Prop}{A:World→Prop}(h:Sep S Gd w0 w rs A) (c:oc rs k (.ba b T cells)) (a:cells.length=n*sz) (hlen:n≤maxLen)
  (d:sc rs k (.row (.slice (some ⟨b,0,none⟩) n n) T sz n cells) rs'):Sep S Gd w0 w rs' A:=by
 have e:Mi w b T cells:=h.get c;refine h.put (b:=b) c rfl rfl d ⟨a,.inr ⟨b,0,n,⟨cells⟩,rfl,e,Nat.le_refl _,hlen,by simp [a],by simp [← a]⟩⟩ (Th.refl _)
theorem mc {x y:Operand}{v:Value}{b o sz:Nat}{k:IntKind}{i:Int}{e:TypeId}(a:P.underlying T=some (.slice e)) (d:kc P e zf td sz m) (f:db fr x v) (h:db fr y (.int k i)) (he:Ei v sz i b o):Xe P (Oper.mk dst (.indexAddr T x y) ty pos after g) fr ((.pointer (some ⟨b,o,none⟩))):=by
 obtain ⟨q,n,c,rfl,j,l,p⟩:=he.out;exact yq a d f h ⟨j,l⟩ p
theorem No {x y:Operand}{v:Value}{b o sz:Nat}{k:IntKind}{i:Int}{e:TypeId}(a:P.underlying T=some (.slice e)) (c:kc P e zf td sz m) (d:db fr x v) (f:db fr y (.int k i)) (he:Ei v sz i b o) (j:Ze fr dst ((.pointer (some ⟨b,o,none⟩))) U) (h:K U ds w):Ed P (Oper.mk dst (.indexAddr T x y) ty pos after g) fr ds w K Q:=sa (mc a c d f he) j h
theorem cd {x y:Operand}{t Wc:TypeId}{a b c:Int}(d:db fr x (.int .i64 a)) (e:db fr y (.int .i64 b)) (h:i64 (a+b)=some c):Xe P (Oper.mk dst (.binOp .add t x y Wc) ty pos after g) fr ((.int .i64 c)):=OB d e (yw h)
theorem Ix {x y:Operand}{t Wc:TypeId}{a b c:Int}(d:db fr x (.int .i64 a)) (e:db fr y (.int .i64 b)) (h:i64 (a+b)=some c) (f:Ze fr dst ((.int .i64 c)) U) (k:K U ds w):Ed P (Oper.mk dst (.binOp .add t x y Wc) ty pos after g) fr ds w K Q:=sa (cd d e h) f k
theorem Lg {x y:Operand}{t Wc:TypeId}{a b c:Int}(d:db fr x (.int .i64 a)) (e:db fr y (.int .i64 b)) (h:i64 (a - b)=some c):Xe P (Oper.mk dst (.binOp .sub t x y Wc) ty pos after g) fr ((.int .i64 c)):=ey d e (yw h)
theorem HG {x y:Operand}{t Wc:TypeId}{a b c:Int}(d:db fr x (.int .i64 a)) (e:db fr y (.int .i64 b)) (h:i64 (a - b)=some c) (f:Ze fr dst ((.int .i64 c)) U) (k:K U ds w):Ed P (Oper.mk dst (.binOp .sub t x y Wc) ty pos after g) fr ds w K Q:=sa (Lg d e h) f k
theorem IG {x y:Operand}{t Wc:TypeId}{a b c:Int}(d:db fr x (.int .i64 a)) (e:db fr y (.int .i64 b)) (h:i64 (a*b)=some c):Xe P (Oper.mk dst (.binOp .mul t x y Wc) ty pos after g) fr ((.int .i64 c)):=fy d e (yw h)
theorem Ho {a b c:Int}(h:quo a b=some c):b≠0∧IntKind.i64.wrap (a.tdiv b)=c:=by
 unfold quo at h;split at h
 ·cases h
 ·rename_i d;exact ⟨d,Option.some.inj h⟩
theorem JG {x y:Operand}{t:TypeId}{k:IntKind}{a:List UInt8}{i:Int}{c:UInt8}(b:P.underlying t=some .string) (d:db fr x (S a)) (e:db fr y (.int k i)) (h:at_ a i=some c):Xe P (Oper.mk dst (.index t x y) ty pos after g) fr (.int .u8 c.toNat):=AG b d e (oq h).1 (oq h).2.2
theorem Zt {x y:Operand}{t:TypeId}{k:IntKind}{a:List UInt8}{i:Int}{c:UInt8}(b:P.underlying t=some .string) (d:db fr x (S a)) (e:db fr y (.int k i)) (h:at_ a i=some c) (f:Ze fr dst (.int .u8 c.toNat) U) (kk:K U ds w):Ed P (Oper.mk dst (.index t x y) ty pos after g) fr ds w K Q:=sa (JG b d e h) f kk
theorem wB {x y:Operand}{t Wc:TypeId}{a b c:List UInt8}(d:db fr x (S a)) (e:db fr y (S b)) (h:cat a b=some c):Xe P (Oper.mk dst (.binOp .add t x y Wc) ty pos after g) fr (S c):=by
 obtain ⟨rfl,f⟩:=GG h;exact GH d e f
structure dn (v:Value) (sz:Nat) (i j:Option Int) (b:Value):Prop where
 out:∃ a n c,v=.slice a n c∧0≤i.getD 0∧i.getD 0≤j.getD n∧j.getD n≤c∧b=.slice (if c=(i.getD 0).toNat then a else a.map (·.add ((i.getD 0).toNat*sz))) ((j.getD n).toNat - (i.getD 0).toNat) (c - (i.getD 0).toNat)
inductive Ju (fr:List Value):Option Operand→Option Int→Prop where
 | n:Ju fr none none
 | s {x:Operand} {i:Int} (h:db fr x (.int .i64 i)):Ju fr (some x) (some i)
theorem wj {x:Operand}{q up:Option Operand}{v r:Value}{sz:Nat}{i j:Option Int}{e:TypeId}(f:P.underlying T=some (.slice e)) (k:kc P e zf td sz m) (l:db fr x v) (u:Ju fr q i) (t:Ju fr up j) (he:dn v sz i j r):Xe P (Oper.mk dst (.slice T x q up none) ty pos after g) fr r:=by
 obtain ⟨a,n,c,rfl,o,b,d,rfl⟩:=he.out;refine ⟨fun ds w=>?_⟩;cases u with
 | n =>
  cases t with
  | n =>
   simp at b d;simp [execOp,l ds,Instr.sliceAt,Instr.slice,run_underlying f,Instr.sliceBounds,k.sizeOf];try rfl
  | s h =>
   rename_i y i;simp at b d;have Ya:i≤(c:Int):=d;simp [execOp,l ds,h ds,Instr.sliceAt,Instr.slice,run_underlying f,Instr.sliceBounds,Instr.sliceBound,asIntOf,k.sizeOf,b,Ya];try rfl
 | s h =>
  rename_i y i;cases t with
  | n =>
   simp at o b d;simp [execOp,l ds,h ds,Instr.sliceAt,Instr.slice,run_underlying f,Instr.sliceBounds,Instr.sliceBound,asIntOf,k.sizeOf,o,b];try rfl
  | s z =>
   rename_i B p;simp at o b d;have Ya:0≤p:=by omega
   have A:(p.toNat:Int)=p:=by omega
   simp [execOp,l ds,h ds,z ds,Instr.sliceAt,Instr.slice,run_underlying f,Instr.sliceBounds,Instr.sliceBound,asIntOf,k.sizeOf,o,b,d,Ya,A];try rfl
theorem Ca.en {α:Type}[Va α]{μ:M}{a:Option Addr}{c:Nat}{xs ys:List α}{i j:Option Int}(h:Ca μ a c xs) (g:cut xs (i.getD 0) (j.getD xs.length)=some ys) :
  ∃ e l,dn (.slice a xs.length c) (Va.sz α) i j (.slice e ys.length l)∧Ca μ e l ys:=by
 obtain ⟨⟨m,n,r⟩,rfl⟩:=Fo g;have hle:=h.le;refine ⟨(if c=(i.getD 0).toNat then a else a.map (·.add ((i.getD 0).toNat*Va.sz α))),c - (i.getD 0).toNat,⟨a,xs.length,c,rfl,m,n,by omega,?_⟩,?_⟩
 ·rw [show ((xs.take (j.getD ↑xs.length).toNat).drop (i.getD 0).toNat).length=(j.getD ↑xs.length).toNat - (i.getD 0).toNat by simp;omega]
 ·refine ⟨by simp;omega,by have:=h.cap;omega,?_⟩;rcases h.el with rfl | ⟨b,o,rfl,f,p⟩
  ·left;simp
  ·by_cases hc:c=(i.getD 0).toNat
   ·left;rw [List.drop_eq_nil_iff];simp;omega
   ·right;rw [if_neg hc];refine ⟨b,o+(i.getD 0).toNat*Va.sz α,by simp [Tj],fun k=>f ((i.getD 0).toNat+k),fun k x d=>?_⟩;rw [List.getElem?_drop] at d;have q:(i.getD 0).toNat+k<(j.getD ↑xs.length).toNat:=by
     have:=(List.getElem?_eq_some_iff.1 d).1;simp at this;omega
    rw [List.getElem?_take_of_lt q] at d;have:=p _ x d;rw [Nat.add_mul,← Nat.add_assoc] at this;exact this
end
end Go.Xc
namespace Go.Xc
open Go.bc Go.RowKit
section
variable {P:Program}{Q:Exit→Act→World→Prop}{K:List Value→List Deferred→World→Prop}{fr U:List Value}{ds:List Deferred}{w:World}
variable {dst:Option Tmp}{ty:TypeId}{pos:String}{after:Array Edge}{g:Option (Nat×Bool)}
variable {w0:World}{rs rs':List jb}{μ:M}
variable {T:TypeId}{d:TypeDesc}{zf:Bool}{td:List Value}{n m:Nat}
theorem DA {x c:Operand}{t:TypeId}{a b:List UInt8}{i:Int}(d:P.underlying t=some .string) (e:db fr x (S a)) (f:db fr c (.int .i64 i)) (h:cut a i a.length=some b):Xe P (Oper.mk dst (.slice t x (some c) none none) ty pos after g) fr (S b):=by
 obtain ⟨⟨j,k,l⟩,rfl⟩:=Fo h;have:=sF (dst:=dst) (ty:=ty) (pos:=pos) (after:=after) (g:=g) d e f ⟨j,k⟩;simpa using this
theorem zw {x up:Operand}{t:TypeId}{a b:List UInt8}{j:Int}(c:P.underlying t=some .string) (d:db fr x (S a)) (e:db fr up (.int .i64 j)) (h:cut a 0 j=some b):Xe P (Oper.mk dst (.slice t x none (some up) none) ty pos after g) fr (S b):=by
 obtain ⟨⟨k,f,i⟩,rfl⟩:=Fo h;have:=tF (dst:=dst) (ty:=ty) (pos:=pos) (after:=after) (g:=g) c d e ⟨f,i⟩;simpa using this
theorem _root_.Go.bc.Row.ee {v:Value}{sz n:Nat}{xs:List Value}(h:Row w v T sz n xs):ee v=true:=by
 rcases h.2 with ⟨rfl,_⟩ | ⟨g,o,cap,cur,rfl,_⟩<;>rfl
theorem Wl {f:Nat}{xs ys:List Operand}{vs us:List Value}(a:uk fr xs vs) (hu:uk fr ys us):Xe P (Oper.mk dst (.makeFunc (.func f) ⟨xs⟩ ⟨ys⟩) ty pos after g) fr (.func (.func f) ⟨vs⟩ ⟨us⟩):=by
 refine ⟨fun ds w=>?_⟩;have b:=a ds;have c:=hu ds;simp [execOp,Instr.makeFunc,b,c]
theorem na.app {α:Type}[Va α]{cells news:List Value}{l xs a:List α}(h:na μ cells l) (k:na μ news xs) (g:app l xs=some a):na μ (cells++news) a:=by
 obtain ⟨rfl,-⟩:=Yt g;exact na.cat k h
theorem Jt {α:Type}{l xs a:List α}(g:app l xs=some a):a.length=l.length+xs.length∧l.length+xs.length≤4294967296:=by
 obtain ⟨rfl,h⟩:=Yt g;exact ⟨by simp,h⟩
theorem vi {α:Type}[Va α]{t:TypeId}{s x:Operand}{v:Value}{bytes k b d c:Nat}{cells news:List Value}{l ys e:List α}(i:P.underlying t=some (.slice T)) (j:kc P T zf td (Va.sz α) bytes) (m:td.length=Va.sz α)
  (n:db fr s v) (o:db fr x (.slice (some ⟨b,0,none⟩) d c)) (p:ka μ w0 w rs) (q:oc rs k (.row v T (Va.sz α) l.length cells)) (r:ui w b 0 news) (f:na μ news ys) (hm:ys.length=d) (u:app l ys=some e) (y:bytes≤4096)
  (h:∀ a w' rs',sc rs k (.row a T (Va.sz α) e.length (cells++news)) rs'→ka μ w0 w' rs'→Ng fr dst a fun U=>K U ds w') :
  Ed P (Oper.mk dst (.call { callee:=.builtin .append,args:=#[s,x],argTypes:=#[t,t] }) ty pos after g) fr ds w K Q:=by
 obtain ⟨z,A⟩:=Jt u;subst hm;refine qn i j (by simp [m,Va.pos]) n o p q r f.len f.sg ⟨A,y⟩ fun a w' rs' B=>h a w' rs' (by rw [z];exact B)
theorem _root_.Go.bc.ui.dj {b o:Nat}{cs:List Value}(h:ui w b o cs) (i n:Nat):ui w b (o+i) ((cs.drop i).take n):=by
 intro j v a;have c:j<n:=by
  have:=(List.getElem?_eq_some_iff.1 a).1;simp at this;omega
 rw [List.getElem?_take_of_lt c,List.getElem?_drop] at a;have:=h _ v a;rw [← Nat.add_assoc] at this;exact this
theorem tc.dj {b o:Nat}{cs:List Value}(h:tc μ b o cs) (i n:Nat):tc μ b (o+i) ((cs.drop i).take n):=fun w hw=>(h w hw).dj i n
theorem pc {x y:Operand}{b k:Nat}{cs vs:List Value}(d:kc P T zf td n m) (e:db fr x (.pointer (some ⟨b,0,none⟩))) (f:db fr y (.agg ⟨vs⟩)) (i:vs.length=n) (j:vs.all ee=true)
  {S Gd:Nat→Prop}{A:World→Prop}(l:Sep S Gd w0 w rs A) {a:TypeId}(o:oc rs k (.ba b a cs)) (he:cs.length=n) (p:sc rs k (.ba b a vs) rs')
  (pb:Ze fr dst undef U) (h:∀ w',Sep S Gd w0 w' rs' A→K U ds w'):Ed P (Oper.mk dst (.store T x y) ty pos after g) fr ds w K Q:=by
 have key:∀ (vs cs pre:List Value),vs.length=cs.length→pf (pre++cs) pre.length vs (pre++vs):=by
  intro vs
  induction vs with
  | nil=>intro cs pre h; cases cs with
   | nil=>exact .z
   | cons c cs=>simp at h
  | cons v vs q =>
   intro cs pre h;cases cs with
   | nil=>simp at h
   | cons c cs =>
    refine .s (cs1:=pre++v::cs) (by unfold sc;simp) (by simp) ?_;have:=q cs (pre++[v]) (by simpa using h);simpa using this
 exact Yp d e f rfl i j l o (by simpa using key vs cs [] (by omega)) (by simp) p pb h
theorem Zp {pl:Array (Nat×Nat)}{xs:List (Nat×Operand)}{out:List Value}(a:kc P T zf td n m) (b:Ig P T pl) (c:Ia fr pl td xs out):Xe P (Oper.mk dst (.build T ⟨xs⟩) ty pos after g) fr (.agg ⟨out⟩):=by
 refine ⟨fun ds w=>?_⟩;obtain ⟨z,d,hc⟩:=a.zero (w:=w);have e:=c.run (ds:=ds);obtain ⟨k,f,h⟩:=b.out;have hm:=h w;have j:((⟨xs⟩:Array (Nat×Operand)).map fun (i,x)=>(i,(F fr ds).eval x)).toList=xs.map fun p=>(p.1,(F fr ds).eval p.2):=by simp
 unfold execOp;simp only [Instr.build,Sem.run_bind,d,Result.andThen_ok,run_underlying f];rw [hm];simp only [Result.andThen_ok,hc,j];rw [e];simp
end
end Go.Xc
namespace Go.bc
theorem oa {α:Type}{a0 O a2 a3 a4 a5 Hb ic hb a9 v:α}{l:List α}{n:Nat}(h:oc l n v):oc (a0::O::a2::a3::a4::a5::Hb::ic::hb::a9::l) (n+10) v:=h
theorem Qa {α:Type}{a0 O a2 a3 a4 a5 Hb ic hb a9 v:α}{l a:List α}{n:Nat}(h:sc l n v a):sc (a0::O::a2::a3::a4::a5::Hb::ic::hb::a9::l) (n+10) v (a0::O::a2::a3::a4::a5::Hb::ic::hb::a9::a):=by unfold sc at *;subst h;rfl
theorem wa {α:Type}{a0 O a2 a3 a4 a5 Hb ic hb a9 Td Cc a12 a Fc je b ed c d v:α}{l:List α}{n:Nat}(h:oc l n v):oc (a0::O::a2::a3::a4::a5::Hb::ic::hb::a9::Td::Cc::a12::a::Fc::je::b::ed::c::d::l) (n+20) v:=h
theorem bb {α:Type}{a0 O a2 a3 a4 a5 Hb ic hb a9 Td Cc a12 a Fc je b ed c d v:α}{l e:List α}{n:Nat}(h:sc l n v e):sc (a0::O::a2::a3::a4::a5::Hb::ic::hb::a9::Td::Cc::a12::a::Fc::je::b::ed::c::d::l) (n+20) v (a0::O::a2::a3::a4::a5::Hb::ic::hb::a9::Td::Cc::a12::a::Fc::je::b::ed::c::d::e):=by unfold sc at *;subst h;rfl
theorem ta {α:Type}{a0 O a2 a3 a4 a5 Hb ic hb a9 Td Cc a12 a Fc je b ed c d a20 a21 a22 a23 a24 a25 a26 e a28 f v:α}{l:List α}{n:Nat}(h:oc l n v):oc (a0::O::a2::a3::a4::a5::Hb::ic::hb::a9::Td::Cc::a12::a::Fc::je::b::ed::c::d::a20::a21::a22::a23::a24::a25::a26::e::a28::f::l) (n+30) v:=h
theorem ob {α:Type}{a0 O a2 a3 a4 a5 Hb ic hb a9 Td Cc a12 a Fc je b ed c d a20 a21 a22 a23 a24 a25 a26 e a28 f v:α}{l g:List α}{n:Nat}(h:sc l n v g):sc (a0::O::a2::a3::a4::a5::Hb::ic::hb::a9::Td::Cc::a12::a::Fc::je::b::ed::c::d::a20::a21::a22::a23::a24::a25::a26::e::a28::f::l) (n+30) v (a0::O::a2::a3::a4::a5::Hb::ic::hb::a9::Td::Cc::a12::a::Fc::je::b::ed::c::d::a20::a21::a22::a23::a24::a25::a26::e::a28::f::g):=by unfold sc at *;subst h;rfl
theorem La {α:Type}{a0 O a2 a3 a4 a5 Hb ic hb a9 Td Cc a12 a Fc je b ed c d a20 a21 a22 a23 a24 a25 a26 e a28 f g a31 i j k m o a37 p q v:α}{l:List α}{n:Nat}(h:oc l n v):oc (a0::O::a2::a3::a4::a5::Hb::ic::hb::a9::Td::Cc::a12::a::Fc::je::b::ed::c::d::a20::a21::a22::a23::a24::a25::a26::e::a28::f::g::a31::i::j::k::m::o::a37::p::q::l) (n+40) v:=h
theorem Tb {α:Type}{a0 O a2 a3 a4 a5 Hb ic hb a9 Td Cc a12 a Fc je b ed c d a20 a21 a22 a23 a24 a25 a26 e a28 f g a31 i j k m o a37 p q v:α}{l r:List α}{n:Nat}(h:sc l n v r):sc (a0::O::a2::a3::a4::a5::Hb::ic::hb::a9::Td::Cc::a12::a::Fc::je::b::ed::c::d::a20::a21::a22::a23::a24::a25::a26::e::a28::f::g::a31::i::j::k::m::o::a37::p::q::l) (n+40) v (a0::O::a2::a3::a4::a5::Hb::ic::hb::a9::Td::Cc::a12::a::Fc::je::b::ed::c::d::a20::a21::a22::a23::a24::a25::a26::e::a28::f::g::a31::i::j::k::m::o::a37::p::q::r):=by unfold sc at *;subst h;rfl
theorem Wa {α:Type}{a0 O a2 a3 a4 a5 Hb ic hb a9 Td Cc a12 a Fc je b ed c d a20 a21 a22 a23 a24 a25 a26 e a28 f g a31 i j k m o a37 p q a40 r s t u w a46 x y a49 v:α}{l:List α}{n:Nat}(h:oc l n v):oc (a0::O::a2::a3::a4::a5::Hb::ic::hb::a9::Td::Cc::a12::a::Fc::je::b::ed::c::d::a20::a21::a22::a23::a24::a25::a26::e::a28::f::g::a31::i::j::k::m::o::a37::p::q::a40::r::s::t::u::w::a46::x::y::a49::l) (n+50) v:=h
theorem Sb {α:Type}{a0 O a2 a3 a4 a5 Hb ic hb a9 Td Cc a12 a Fc je b ed c d a20 a21 a22 a23 a24 a25 a26 e a28 f g a31 i j k m o a37 p q a40 r s t u w a46 x y a49 v:α}{l z:List α}{n:Nat}(h:sc l n v z):sc (a0::O::a2::a3::a4::a5::Hb::ic::hb::a9::Td::Cc::a12::a::Fc::je::b::ed::c::d::a20::a21::a22::a23::a24::a25::a26::e::a28::f::g::a31::i::j::k::m::o::a37::p::q::a40::r::s::t::u::w::a46::x::y::a49::l) (n+50) v (a0::O::a2::a3::a4::a5::Hb::ic::hb::a9::Td::Cc::a12::a::Fc::je::b::ed::c::d::a20::a21::a22::a23::a24::a25::a26::e::a28::f::g::a31::i::j::k::m::o::a37::p::q::a40::r::s::t::u::w::a46::x::y::a49::z):=by unfold sc at *;subst h;rfl
theorem Qb {α:Type}{a0 O a2 a3 a4 a5 Hb ic hb a9 Td Cc a12 a Fc je b ed c d a20 a21 a22 a23 a24 a25 a26 e a28 f g a31 i j k m o a37 p q a40 r s t u w a46 x y a49 z a51 A a53 B C D F G a59 v:α}{l:List α}{n:Nat}(h:oc l n v):oc (a0::O::a2::a3::a4::a5::Hb::ic::hb::a9::Td::Cc::a12::a::Fc::je::b::ed::c::d::a20::a21::a22::a23::a24::a25::a26::e::a28::f::g::a31::i::j::k::m::o::a37::p::q::a40::r::s::t::u::w::a46::x::y::a49::z::a51::A::a53::B::C::D::F::G::a59::l) (n+60) v:=h
theorem Kc {α:Type}{a0 O a2 a3 a4 a5 Hb ic hb a9 Td Cc a12 a Fc je b ed c d a20 a21 a22 a23 a24 a25 a26 e a28 f g a31 i j k m o a37 p q a40 r s t u w a46 x y a49 z a51 A a53 B C D F G a59 v:α}{l H:List α}{n:Nat}(h:sc l n v H):sc (a0::O::a2::a3::a4::a5::Hb::ic::hb::a9::Td::Cc::a12::a::Fc::je::b::ed::c::d::a20::a21::a22::a23::a24::a25::a26::e::a28::f::g::a31::i::j::k::m::o::a37::p::q::a40::r::s::t::u::w::a46::x::y::a49::z::a51::A::a53::B::C::D::F::G::a59::l) (n+60) v (a0::O::a2::a3::a4::a5::Hb::ic::hb::a9::Td::Cc::a12::a::Fc::je::b::ed::c::d::a20::a21::a22::a23::a24::a25::a26::e::a28::f::g::a31::i::j::k::m::o::a37::p::q::a40::r::s::t::u::w::a46::x::y::a49::z::a51::A::a53::B::C::D::F::G::a59::H):=by unfold sc at *;subst h;rfl
theorem cc {α:Type}{a0 O a2 a3 a4 a5 Hb ic hb a9 Td Cc a12 a Fc je b ed c d a20 a21 a22 a23 a24 a25 a26 e a28 f g a31 i j k m o a37 p q a40 r s t u w a46 x y a49 z a51 A a53 B C D F G a59 H K M N P Q R S T V v:α}{l:List α}{n:Nat}(h:oc l n v):oc (a0::O::a2::a3::a4::a5::Hb::ic::hb::a9::Td::Cc::a12::a::Fc::je::b::ed::c::d::a20::a21::a22::a23::a24::a25::a26::e::a28::f::g::a31::i::j::k::m::o::a37::p::q::a40::r::s::t::u::w::a46::x::y::a49::z::a51::A::a53::B::C::D::F::G::a59::H::K::M::N::P::Q::R::S::T::V::l) (n+70) v:=h
theorem Cf {α:Type}{a0 O a2 a3 a4 a5 Hb ic hb a9 Td Cc a12 a Fc je b ed c d a20 a21 a22 a23 a24 a25 a26 e a28 f g a31 i j k m o a37 p q a40 r s t u w a46 x y a49 z a51 A a53 B C D F G a59 H K M N P Q R S T V v:α}{l W:List α}{n:Nat}(h:sc l n v W):sc (a0::O::a2::a3::a4::a5::Hb::ic::hb::a9::Td::Cc::a12::a::Fc::je::b::ed::c::d::a20::a21::a22::a23::a24::a25::a26::e::a28::f::g::a31::i::j::k::m::o::a37::p::q::a40::r::s::t::u::w::a46::x::y::a49::z::a51::A::a53::B::C::D::F::G::a59::H::K::M::N::P::Q::R::S::T::V::l) (n+70) v (a0::O::a2::a3::a4::a5::Hb::ic::hb::a9::Td::Cc::a12::a::Fc::je::b::ed::c::d::a20::a21::a22::a23::a24::a25::a26::e::a28::f::g::a31::i::j::k::m::o::a37::p::q::a40::r::s::t::u::w::a46::x::y::a49::z::a51::A::a53::B::C::D::F::G::a59::H::K::M::N::P::Q::R::S::T::V::W):=by unfold sc at *;subst h;rfl
theorem wc {α:Type}{a0 O a2 a3 a4 a5 Hb ic hb a9 Td Cc a12 a Fc je b ed c d a20 a21 a22 a23 a24 a25 a26 e a28 f g a31 i j k m o a37 p q a40 r s t u w a46 x y a49 z a51 A a53 B C D F G a59 H K M N P Q R S T V a70 W a72 X Y a75 a76 Z gc hc v:α}{l:List α}{n:Nat}(h:oc l n v):oc (a0::O::a2::a3::a4::a5::Hb::ic::hb::a9::Td::Cc::a12::a::Fc::je::b::ed::c::d::a20::a21::a22::a23::a24::a25::a26::e::a28::f::g::a31::i::j::k::m::o::a37::p::q::a40::r::s::t::u::w::a46::x::y::a49::z::a51::A::a53::B::C::D::F::G::a59::H::K::M::N::P::Q::R::S::T::V::a70::W::a72::X::Y::a75::a76::Z::gc::hc::l) (n+80) v:=h
theorem ue {α:Type}{a0 O a2 a3 a4 a5 Hb ic hb a9 Td Cc a12 a Fc je b ed c d a20 a21 a22 a23 a24 a25 a26 e a28 f g a31 i j k m o a37 p q a40 r s t u w a46 x y a49 z a51 A a53 B C D F G a59 H K M N P Q R S T V a70 W a72 X Y a75 a76 Z gc hc v:α}{l lc:List α}{n:Nat}(h:sc l n v lc):sc (a0::O::a2::a3::a4::a5::Hb::ic::hb::a9::Td::Cc::a12::a::Fc::je::b::ed::c::d::a20::a21::a22::a23::a24::a25::a26::e::a28::f::g::a31::i::j::k::m::o::a37::p::q::a40::r::s::t::u::w::a46::x::y::a49::z::a51::A::a53::B::C::D::F::G::a59::H::K::M::N::P::Q::R::S::T::V::a70::W::a72::X::Y::a75::a76::Z::gc::hc::l) (n+80) v (a0::O::a2::a3::a4::a5::Hb::ic::hb::a9::Td::Cc::a12::a::Fc::je::b::ed::c::d::a20::a21::a22::a23::a24::a25::a26::e::a28::f::g::a31::i::j::k::m::o::a37::p::q::a40::r::s::t::u::w::a46::x::y::a49::z::a51::A::a53::B::C::D::F::G::a59::H::K::M::N::P::Q::R::S::T::V::a70::W::a72::X::Y::a75::a76::Z::gc::hc::lc):=by unfold sc at *;subst h;rfl
theorem fe {α:Type}{a0 O a2 a3 a4 a5 Hb ic hb a9 Td Cc a12 a Fc je b ed c d a20 a21 a22 a23 a24 a25 a26 e a28 f g a31 i j k m o a37 p q a40 r s t u w a46 x y a49 z a51 A a53 B C D F G a59 H K M N P Q R S T V a70 W a72 X Y a75 a76 Z gc hc a80 lc rc fd id a85 md a87 rd wd v:α}{l:List α}{n:Nat}(h:oc l n v):oc (a0::O::a2::a3::a4::a5::Hb::ic::hb::a9::Td::Cc::a12::a::Fc::je::b::ed::c::d::a20::a21::a22::a23::a24::a25::a26::e::a28::f::g::a31::i::j::k::m::o::a37::p::q::a40::r::s::t::u::w::a46::x::y::a49::z::a51::A::a53::B::C::D::F::G::a59::H::K::M::N::P::Q::R::S::T::V::a70::W::a72::X::Y::a75::a76::Z::gc::hc::a80::lc::rc::fd::id::a85::md::a87::rd::wd::l) (n+90) v:=h
theorem Zg {α:Type}{a0 O a2 a3 a4 a5 Hb ic hb a9 Td Cc a12 a Fc je b ed c d a20 a21 a22 a23 a24 a25 a26 e a28 f g a31 i j k m o a37 p q a40 r s t u w a46 x y a49 z a51 A a53 B C D F G a59 H K M N P Q R S T V a70 W a72 X Y a75 a76 Z gc hc a80 lc rc fd id a85 md a87 rd wd v:α}{l Fd:List α}{n:Nat}(h:sc l n v Fd):sc (a0::O::a2::a3::a4::a5::Hb::ic::hb::a9::Td::Cc::a12::a::Fc::je::b::ed::c::d::a20::a21::a22::a23::a24::a25::a26::e::a28::f::g::a31::i::j::k::m::o::a37::p::q::a40::r::s::t::u::w::a46::x::y::a49::z::a51::A::a53::B::C::D::F::G::a59::H::K::M::N::P::Q::R::S::T::V::a70::W::a72::X::Y::a75::a76::Z::gc::hc::a80::lc::rc::fd::id::a85::md::a87::rd::wd::l) (n+90) v (a0::O::a2::a3::a4::a5::Hb::ic::hb::a9::Td::Cc::a12::a::Fc::je::b::ed::c::d::a20::a21::a22::a23::a24::a25::a26::e::a28::f::g::a31::i::j::k::m::o::a37::p::q::a40::r::s::t::u::w::a46::x::y::a49::z::a51::A::a53::B::C::D::F::G::a59::H::K::M::N::P::Q::R::S::T::V::a70::W::a72::X::Y::a75::a76::Z::gc::hc::a80::lc::rc::fd::id::a85::md::a87::rd::wd::Fd):=by unfold sc at *;subst h;rfl
theorem Ga {α:Type}{a0 O a2 a3 a4 a5 Hb ic hb a9 Td Cc a12 a Fc je b ed c d a20 a21 a22 a23 a24 a25 a26 e a28 f g a31 i j k m o a37 p q a40 r s t u w a46 x y a49 z a51 A a53 B C D F G a59 H K M N P Q R S T V a70 W a72 X Y a75 a76 Z gc hc a80 lc rc fd id a85 md a87 rd wd Fd a91 Id a93 be ce ge he le ne v:α}{l:List α}{n:Nat}(h:oc l n v):oc (a0::O::a2::a3::a4::a5::Hb::ic::hb::a9::Td::Cc::a12::a::Fc::je::b::ed::c::d::a20::a21::a22::a23::a24::a25::a26::e::a28::f::g::a31::i::j::k::m::o::a37::p::q::a40::r::s::t::u::w::a46::x::y::a49::z::a51::A::a53::B::C::D::F::G::a59::H::K::M::N::P::Q::R::S::T::V::a70::W::a72::X::Y::a75::a76::Z::gc::hc::a80::lc::rc::fd::id::a85::md::a87::rd::wd::Fd::a91::Id::a93::be::ce::ge::he::le::ne::l) (n+100) v:=h
theorem Gb {α:Type}{a0 O a2 a3 a4 a5 Hb ic hb a9 Td Cc a12 a Fc je b ed c d a20 a21 a22 a23 a24 a25 a26 e a28 f g a31 i j k m o a37 p q a40 r s t u w a46 x y a49 z a51 A a53 B C D F G a59 H K M N P Q R S T V a70 W a72 X Y a75 a76 Z gc hc a80 lc rc fd id a85 md a87 rd wd Fd a91 Id a93 be ce ge he le ne v:α}{l Ne:List α}{n:Nat}(h:sc l n v Ne):sc (a0::O::a2::a3::a4::a5::Hb::ic::hb::a9::Td::Cc::a12::a::Fc::je::b::ed::c::d::a20::a21::a22::a23::a24::a25::a26::e::a28::f::g::a31::i::j::k::m::o::a37::p::q::a40::r::s::t::u::w::a46::x::y::a49::z::a51::A::a53::B::C::D::F::G::a59::H::K::M::N::P::Q::R::S::T::V::a70::W::a72::X::Y::a75::a76::Z::gc::hc::a80::lc::rc::fd::id::a85::md::a87::rd::wd::Fd::a91::Id::a93::be::ce::ge::he::le::ne::l) (n+100) v (a0::O::a2::a3::a4::a5::Hb::ic::hb::a9::Td::Cc::a12::a::Fc::je::b::ed::c::d::a20::a21::a22::a23::a24::a25::a26::e::a28::f::g::a31::i::j::k::m::o::a37::p::q::a40::r::s::t::u::w::a46::x::y::a49::z::a51::A::a53::B::C::D::F::G::a59::H::K::M::N::P::Q::R::S::T::V::a70::W::a72::X::Y::a75::a76::Z::gc::hc::a80::lc::rc::fd::id::a85::md::a87::rd::wd::Fd::a91::Id::a93::be::ce::ge::he::le::ne::Ne):=by unfold sc at *;subst h;rfl
end Go.bc
namespace Go.bc
open Go.RowKit
section
variable {P:Program}{Q:Exit→Act→World→Prop}{K:List Value→List Deferred→World→Prop}{fr U:List Value}{ds:List Deferred}{w:World}
variable {dst:Option Tmp}{ty:TypeId}{pos:String}{after:Array Edge}{g:Option (Nat×Bool)}
variable {S Gd:Nat→Prop}{w0:World}{rs rs':List jb}{A:World→Prop}
variable {T:TypeId}
inductive kj:TypeDesc→Value→Prop where
 | str (l:List UInt8):kj .string (bc.S l)
 | int (k:IntKind) (n:Int):kj (.int k) (.int k n)
def aj:Value→Value→Bool
 | .string a,.string b=>decide (a.data.toList=b.data.toList)
 | .int _ a,.int _ b=>decide (a=b)
 | _,_=>false
def pk (es:List MapEntry) (k:Value):Option (Nat×Value):=(es.zipIdx.find? fun e=>aj k e.1.key).map fun e=>(e.2,e.1.val)
theorem sD {d:TypeDesc}{k:Value}(a:kj d k):∀ (es:List MapEntry) (i:Nat),(∀ e ∈ es,kj d e.key)→Instr.findNow d k es i=some (((es.zipIdx i).find? fun e=>aj k e.1.key).map fun e=>(e.2,e.1.val)):=by
 intro es
 induction es with
 | nil=>intro i _; simp [Instr.findNow]
 | cons e es b =>
  intro i h;have he:=h e (by simp);have c:=b (i+1) fun x f=>h x (by simp [f]);simp only [Instr.findNow,List.zipIdx_cons,List.find?_cons];have g:Instr.sameNow d k e.key=some (aj k e.key):=by
   generalize e.key=j at he;cases a with
   | str l =>
    cases he with
    | str m =>
     simp only [Instr.sameNow,bc.S,aj];congr 1;rw [Bool.eq_iff_iff,xw];simp
   | int kk n =>
    cases he with
    | int _ o =>
     simp only [Instr.sameNow,if_true,aj];congr 1
  rw [g];cases p:aj k e.key with
  | true=>simp
  | false=>exact c
theorem run_findKey {xe:TypeId}{d:TypeDesc}{k:Value}{es:List MapEntry}(a:P.underlying xe=some d) (b:kj d k) (he:∀ e ∈ es,kj d e.key):(Instr.findKey xe k es).run P w=.ok (pk es k) w:=by
 unfold Instr.findKey pk;simp only [Sem.run_bind,run_underlying a,Result.andThen_ok,sD b es 0 he];rfl
theorem run_checkKey {xe:TypeId}{d:TypeDesc}{k:Value}{b:Bool}(a:P.underlying xe=some d) (c:kj d k):(Instr.checkKey b 10000 xe k).run P w=.ok () w:=by
 show (Instr.checkKey b (9999+1) xe k).run P w=_;unfold Instr.checkKey;simp only [Sem.run_bind,run_underlying a,Result.andThen_ok];cases c<;>rfl
theorem fj (a:Sep S Gd w0 w rs A) (h:∀ b w',w.heap.size≤b→Sep S Gd w0 w' (.map b [] 0::rs) A→Ng fr dst (.map (some b)) fun U=>K U ds w'):Ed P (Oper.mk dst (.makeMap T none) ty pos after g) fr ds w K Q:=by
 obtain ⟨U,pb⟩:=Sh fr dst (.map (some w.heap.size));refine Bh (v:=.map (some w.heap.size)) (w':=w.alloc (.map #[] 0)) ?_ pb (h _ _ (Nat.le_refl _) (a.alloc rfl (heap_alloc_new w _)) U pb);simp [execOp,Instr.makeMap]
def ij (es:List MapEntry) (k z:Value):Value:=(pk es k).elim z (·.2)
def Rm (es:List MapEntry) (k:Value):Bool:=(pk es k).isSome
def putAt (es:List MapEntry) (c:Nat) (k v:Value):List MapEntry:=match pk es k with
 | some (i,_)=>es.modify i fun e=>{ e with key:=k,val:=v }
 | none=>es++[{ key:=k,val:=v,born:=c }]
def Jl (es:List MapEntry) (c:Nat) (k:Value):Nat:=match pk es k with
 | some _=>c
 | none=>c+1
theorem tD {es:List MapEntry}{k v:Value}{i:Nat}(h:pk es k=some (i,v)):∃ e,es[i]?=some e∧aj k e.key=true∧e.val=v:=by
 unfold pk at h;cases a:es.zipIdx.find? fun e=>aj k e.1.key with
 | none=>rw [a] at h; cases h
 | some x =>
  rw [a] at h;simp only [Option.map_some,Option.some.injEq,Prod.mk.injEq] at h;obtain ⟨rfl,rfl⟩:=h;have b:=List.find?_some (p:=fun e:MapEntry×Nat=>aj k e.1.key) a;have c:=List.mem_of_find?_eq_some a;exact ⟨x.1,by have:=List.mem_zipIdx_iff_getElem?.1 c;simpa using this,b,rfl⟩
theorem eE {d:TypeDesc}{k a:Value}(c:kj d k) (b:kj d a) (h:aj k a=true):Instr.sameBits 10000 a k=true:=by
 cases c with
 | str l =>
  cases b with
  | str e =>
   simp [aj,bc.S] at h;subst h;simp only [Instr.sameBits,bc.S];exact (xw _ _).2 rfl
 | int kk n =>
  cases b with
  | int _ f =>
   simp [aj] at h;subst h;simp [Instr.sameBits]
theorem xB {x y z:Operand}{xe aa:TypeId}{d:TypeDesc}{Ef v:Value}{b c k:Nat}{es:List MapEntry}(m:P.underlying T=some (.map xe aa)) (n:P.underlying xe=some d) (o:db fr x (.map (some b))) (p:db fr y Ef) (a:kj d Ef) (q:db fr z v)
  (r:Sep S Gd w0 w rs A) (s:oc rs k (.map b es c)) (he:∀ e ∈ es,kj d e.key)
  (pb:Ze fr dst undef U) (h:∀ w' rs',sc rs k (.map b (putAt es c Ef v) (Jl es c Ef)) rs'→Sep S Gd w0 w' rs' A→K U ds w'):Ed P (Oper.mk dst (.mapUpdate T x y z) ty pos after g) fr ds w K Q:=by
 have f:w.heap[b]?=some (.map ⟨es⟩ c):=r.get s;have D:b<w.heap.size:=(Array.getElem?_eq_some_iff.1 f).1
 let w':World:={ w with heap:=w.heap.setIfInBounds b (.map ⟨putAt es c Ef v⟩ (Jl es c Ef)) }
 have F:Th (fun k=>k≠b) w w':=⟨rfl,rfl,rfl,by simp [w'],fun j _ G=>by simp [w',Array.getElem?_setIfInBounds,Ne.symm G]⟩;have H:=r.put (b:=b) (r':=.map b (putAt es c Ef v) (Jl es c Ef)) (w':=w') s rfl rfl rfl (by show w'.heap[b]?=_;simp [w',D]) F;have t:=run_checkKey (P:=P) (w:=w) (b:=false) n a;have B:=run_findKey (P:=P) (w:=w) n a he;refine Sy (w':=w') ?_ pb (h w' _ rfl H);cases l:pk es Ef with
 | none=>simp [execOp,o ds,p ds,q ds,Instr.mapUpdate,run_underlying m,getObj,setObj,Sem.run,f,Result.andThen,t,B,l,w',putAt,Jl]
 | some e =>
  obtain ⟨i,u⟩:=e;obtain ⟨e,C,M,-⟩:=tD l;have N:=eE a (he e (List.mem_of_getElem? C)) M;simp [execOp,o ds,p ds,q ds,Instr.mapUpdate,run_underlying m,getObj,setObj,Sem.run,f,Result.andThen,t,B,l,C,Instr.keyThatStays,N,w',putAt,Jl]
theorem JE {x:Operand}{xe aa:TypeId}{m c k:Nat}{es:List MapEntry}(d:P.underlying T=some (.map xe aa)) (e:db fr x (.map (some m))) (a:Sep S Gd w0 w rs A) (f:oc rs k (.map m es c))
  (h:∀ b w',w.heap.size≤b→Sep S Gd w0 w' (.dk b m c [] c::rs) A→Ng fr dst (.pointer (some ⟨b,0,none⟩)) fun U=>K U ds w'):Ed P (Oper.mk dst (.range T x) ty pos after g) fr ds w K Q:=by
 have i:w.heap[m]?=some (.map ⟨es⟩ c):=a.get f;obtain ⟨U,pb⟩:=Sh fr dst (.pointer (some ⟨w.heap.size,0,none⟩));refine Bh (v:=.pointer (some ⟨w.heap.size,0,none⟩)) (w':=w.alloc (.mapIter (some m) c #[] c)) ?_ pb (h _ _ (Nat.le_refl _) (a.alloc rfl (heap_alloc_new w _)) U pb);simp [execOp,e ds,Instr.range,run_underlying d,getObj,Sem.run,i,Result.andThen]
end
end Go.bc
namespace Go.Xc
open Go.bc Go.RowKit
section
variable {P:Program}{Q:Exit→Act→World→Prop}{K:List Value→List Deferred→World→Prop}{fr U:List Value}{ds:List Deferred}{w:World}
variable {dst:Option Tmp}{ty:TypeId}{pos:String}{after:Array Edge}{g:Option (Nat×Bool)}
variable {w0:World}{rs rs':List jb}{μ I:M}
variable {T:TypeId}{d:TypeDesc}{zf:Bool}{td:List Value}{n m:Nat}
theorem UA {x y:Operand}{xe aa:TypeId}{d:TypeDesc}{Ef z:Value}{b c:Nat}{es:List MapEntry}(a:P.underlying T=some (.map xe aa)) (f:P.underlying xe=some d) (i:db fr x (.map (some b))) (j:db fr y Ef) (k:kj d Ef)
  (p:∀ w,(zeroValue aa).run P w=.ok z w) (l:w.heap[b]?=some (.map ⟨es⟩ c)) (he:∀ e ∈ es,kj d e.key)
  (q:Ze fr dst (ij es Ef z) U) (h:K U ds w):Ed P (Oper.mk dst (.lookup T x y false) ty pos after g) fr ds w K Q:=by
 refine Bh (w':=w) ?_ q h;have m:=run_checkKey (w:=w) (b:=es.isEmpty) f k;have n:=run_findKey (w:=w) f k he;cases o:pk es Ef with
 | none=>simp [execOp,i ds,j ds,Instr.lookup,run_underlying a,getObj,Sem.run,l,Result.andThen,m,n,o,p w,ij]
 | some e=>simp [execOp,i ds,j ds,Instr.lookup,run_underlying a,getObj,Sem.run,l,Result.andThen,m,n,o,ij]
theorem Aw {x y:Operand}{xe aa:TypeId}{d:TypeDesc}{Ef z:Value}{b c:Nat}{es:List MapEntry}(a:P.underlying T=some (.map xe aa)) (f:P.underlying xe=some d) (i:db fr x (.map (some b))) (j:db fr y Ef) (k:kj d Ef)
  (p:∀ w,(zeroValue aa).run P w=.ok z w) (l:w.heap[b]?=some (.map ⟨es⟩ c)) (he:∀ e ∈ es,kj d e.key)
  (q:Ze fr dst (.tuple #[ij es Ef z,.bool (Rm es Ef)]) U) (h:K U ds w):Ed P (Oper.mk dst (.lookup T x y true) ty pos after g) fr ds w K Q:=by
 refine Bh (w':=w) ?_ q h;have m:=run_checkKey (w:=w) (b:=es.isEmpty) f k;have n:=run_findKey (w:=w) f k he;cases o:pk es Ef with
 | none=>simp [execOp,i ds,j ds,Instr.lookup,run_underlying a,getObj,Sem.run,l,Result.andThen,m,n,o,p w,ij,Rm]
 | some e=>simp [execOp,i ds,j ds,Instr.lookup,run_underlying a,getObj,Sem.run,l,Result.andThen,m,n,o,ij,Rm]
class lb (κ:Type) [DecidableEq κ] where
 key:κ→Value
 fk:TypeDesc
 xe:∀ k,kj fk (key k)
 eq:∀ a b,aj (key a) (key b)=decide (a=b)
instance:lb (List UInt8) where
 key:=S
 fk:=.string
 xe:=.str
 eq a b:=by simp [aj,S]
instance:lb Int where
 key n:=.int .i64 n
 fk:=.int .i64
 xe:=.int .i64
 eq a b:=by simp [aj]
class sh (β:Type) where
 Hi:M→Value→β→Prop
 up:∀ {μ I:M}{v:Value}{x:β},da μ I→Hi μ v x→Hi I v x
instance:sh Int where
 Hi _ v x:=v=.int .i64 x
 up _ h:=h
def Nn {α:Type}[Va α] (μ:M) (v:Value) (x:α):Prop:=∃ cs,v=.agg ⟨cs⟩∧Va.cs μ cs x
theorem Nn.up {α:Type}[Va α]{v:Value}{x:α}(l:da μ I) (h:Nn μ v x):Nn I v x:=by
 obtain ⟨cs,a,b⟩:=h;exact ⟨cs,a,Va.up l b⟩
def Pl {α:Type}[Va α] (μ:M) (v:Value) (x:α):Prop:=∃ b o cs,v=.pointer (some ⟨b,o,none⟩)∧tc μ b o cs∧Va.cs μ cs x
theorem Pl.up {α:Type}[Va α]{v:Value}{x:α}(l:da μ I) (h:Pl μ v x):Pl I v x:=by
 obtain ⟨b,o,cs,a,c,d⟩:=h;exact ⟨b,o,cs,a,c.up l,Va.up l d⟩
def Te {α:Type}[Va α] (μ:M) (v:Value):Option α→Prop
 | none=>v=.pointer none
 | some x=>Pl μ v x
theorem Te.up {α:Type}[Va α]{v:Value}{x:Option α}(h:Te μ v x) (l:da μ I):Te I v x:=by
 cases x with
 | none=>exact h
 | some x=>exact Pl.up l h
theorem Te.ee {α:Type}[Va α]{v:Value}{x:Option α}(h:Te μ v x):ee v=true:=by
 cases x with
 | none=>rw [show v=.pointer none from h]; rfl
 | some x=>obtain ⟨b,o,cs,rfl,-⟩:=h; rfl
theorem Te.of {α:Type}[Va α]{b o:Nat}{cs:List Value}{x:α}(h:tc μ b o cs) (k:Va.cs μ cs x):Te μ (.pointer (some ⟨b,o,none⟩)) (some x):=⟨b,o,cs,rfl,h,k⟩
theorem Te.get {α:Type}[Va α]{v:Value}{o:Option α}{x:α}(h:Te μ v o) (g:o=some x):∃ b o cs,v=.pointer (some ⟨b,o,none⟩)∧tc μ b o cs∧Va.cs μ cs x:=by
 subst g;exact h
instance {α:Type}[Va α]:Va (Option α) where
 sz:=1
 pos:=by decide
 cs μ l x:=∃ v,l=[v]∧Te μ v x
 fh h:=by obtain ⟨v,rfl,-⟩:=h;rfl
 up l h:=by obtain ⟨v,a,b⟩:=h;exact ⟨v,a,b.up l⟩
 sg h:=by obtain ⟨v,rfl,h⟩:=h;simp [h.ee]
def Ge {κ β:Type}[DecidableEq κ]:List (κ×β)→κ→Option β
 | [],_=>none
 | (a,b)::m,k=>if a=k then some b else Ge m k
def pe {κ β:Type}[DecidableEq κ]:List (κ×β)→κ→β→List (κ×β)
 | [],k,x=>[(k,x)]
 | (a,b)::m,k,x=>if a=k then (k,x)::m else (a,b)::pe m k x
def lg {κ β:Type}[DecidableEq κ] [lb κ] [sh β] (μ:M):List MapEntry→List (κ×β)→Prop
 | [],m=>m=[]
 | e::es,m=>∃ k x t,m=(k,x)::t∧e.key=lb.key k∧sh.Hi μ e.val x∧lg μ es t
structure Ue {κ β:Type}[DecidableEq κ] [lb κ] [sh β] (μ:M) (es:List MapEntry) (c:Nat) (m:List (κ×β)):Prop where
 Ef:lg μ es m
 lt:∀ e ∈ es,e.born<c
 inc:es.Pairwise fun a b=>a.born<b.born
variable {κ β:Type}[DecidableEq κ] [lb κ] [sh β]
theorem lg.up (l:da μ I):∀ {es:List MapEntry}{m:List (κ×β)},lg μ es m→lg I es m
 | [],m,h=>by rw [lg] at h ⊢; exact h
 | e::es,m,h=>by
  rw [lg] at h ⊢;obtain ⟨k,x,t,a,b,c,d⟩:=h;exact ⟨k,x,t,a,b,sh.up l c,lg.up l d⟩
theorem Ue.up {es:List MapEntry}{c:Nat}{m:List (κ×β)}(h:Ue μ es c m) (l:da μ I):Ue I es c m:=⟨h.Ef.up l,h.lt,h.inc⟩
theorem lg.keys:∀ {es:List MapEntry}{m:List (κ×β)},lg μ es m→∀ e ∈ es,kj (lb.fk (κ:=κ)) e.key
 | [],m,_,e,he=>by cases he
 | e::es,m,h,a,he=>by
  rw [lg] at h;obtain ⟨k,x,t,d,b,f,c⟩:=h;rcases List.mem_cons.1 he with rfl | he
  ·rw [b];exact lb.xe k
  ·exact lg.keys c a he
theorem lg.len:∀ {es:List MapEntry}{m:List (κ×β)},lg μ es m→es.length=m.length
 | [],m,h=>by rw [lg] at h; simp [h]
 | e::es,m,h=>by
  rw [lg] at h;obtain ⟨k,x,t,rfl,b,c,a⟩:=h;simp [lg.len a]
def Fj (Ef:Value):List MapEntry→Option (Nat×Value)
 | []=>none
 | e::es=>if aj Ef e.key then some (0,e.val) else (Fj Ef es).map fun p=>(p.1+1,p.2)
theorem VA (Ef:Value):∀ (es:List MapEntry) (i:Nat),(((es.zipIdx i).find? fun e=>aj Ef e.1.key).map fun e=>(e.2,e.1.val))=(Fj Ef es).map fun p=>(p.1+i,p.2)
 | [],i=>rfl
 | e::es,i=>by
  rw [List.zipIdx_cons,List.find?_cons,Fj];cases h:aj Ef e.key with
  | true=>simp
  | false =>
   simp only [Bool.false_eq_true,if_false];rw [VA Ef es (i+1),Option.map_map];congr 1;funext p;simp;omega
theorem Lp (es:List MapEntry) (Ef:Value):pk es Ef=Fj Ef es:=by
 unfold pk;rw [VA];cases Fj Ef es<;>simp
theorem lg.look:∀ {es:List MapEntry}{m:List (κ×β)},lg μ es m→∀ k:κ,(match Fj (lb.key k) es with | none=>Ge m k=none | some p=>∃ x,Ge m k=some x∧sh.Hi μ p.2 x)
 | [],m,h,k=>by rw [lg] at h; subst h; rfl
 | e::es,m,h,k=>by
  rw [lg] at h;obtain ⟨d,x,t,rfl,f,g,i⟩:=h;rw [Fj,Ge,f,lb.eq];have a:=lg.look i k;by_cases b:k=d
  ·subst b;simp;exact g
  ·rw [if_neg (by simpa using b),if_neg (fun e=>b e.symm)];cases c:Fj (lb.key k) es with
   | none=>rw [c] at a; exact a
   | some p=>rw [c] at a; exact a
theorem lg.get {es:List MapEntry}{m:List (κ×β)}(h:lg μ es m) (k:κ){z:Value}{zx:β}(b:sh.Hi μ z zx):sh.Hi μ (ij es (lb.key k) z) ((Ge m k).getD zx):=by
 have:=h.look k;unfold ij;rw [Lp];cases a:Fj (lb.key k) es with
 | none=>rw [a] at this; simp only at this; rw [this]; exact b
 | some p=>rw [a] at this; obtain ⟨x,c,d⟩:=this; rw [c]; exact d
theorem lg.has {es:List MapEntry}{m:List (κ×β)}(h:lg μ es m) (k:κ):Rm es (lb.key k)=(Ge m k).isSome:=by
 have:=h.look k;unfold Rm;rw [Lp];cases a:Fj (lb.key k) es with
 | none=>rw [a] at this; simp only at this; rw [this]; rfl
 | some p=>rw [a] at this; obtain ⟨x,b,c⟩:=this; rw [b]; rfl
theorem lg.put:∀ {es:List MapEntry}{m:List (κ×β)},lg μ es m→∀ (k:κ){v:Value}{x:β},sh.Hi μ v x→∀ c,lg μ (match Fj (lb.key k) es with | some (i,_)=>es.modify i fun e=>{ e with key:=lb.key k,val:=v } | none=>es++[{ key:=lb.key k,val:=v,born:=c }]) (pe m k x)
 | [],m,h,k,v,x,Nb,c=>by
  rw [lg] at h;subst h;exact ⟨k,x,[],rfl,rfl,Nb,rfl⟩
 | e::es,m,h,k,v,x,Nb,c=>by
  rw [lg] at h;obtain ⟨b,g,t,rfl,d,j,l⟩:=h;rw [Fj,pe,d,lb.eq];have a:=lg.put l k Nb c;by_cases f:k=b
  ·subst f;simp;exact ⟨k,x,t,rfl,rfl,Nb,l⟩
  ·rw [if_neg (by simpa using f),if_neg (fun e=>f e.symm)];cases n:Fj (lb.key k) es with
   | none=>rw [n] at a; exact ⟨b,g,_,rfl,d,j,a⟩
   | some p=>rw [n] at a; exact ⟨b,g,_,rfl,d,j,a⟩
theorem Ue.put {es:List MapEntry}{c:Nat}{m:List (κ×β)}(h:Ue μ es c m) (k:κ){v:Value}{x:β}(Nb:sh.Hi μ v x):Ue μ (putAt es c (lb.key k) v) (Jl es c (lb.key k)) (pe m k x):=by
 have d:=h.Ef.put k Nb c;have Ya:∀ i,(es.modify i fun e=>{ e with key:=lb.key k,val:=v }).map (·.born)=es.map (·.born):=by
  intro i;refine List.ext_getElem (by simp) fun j w y=>?_;simp only [List.getElem_map,List.getElem_modify];split<;>rfl
 have o:∀ l:List MapEntry,l.map (·.born)=es.map (·.born)→∀ e ∈ l,e.born<c:=fun l g e he=>by
  have hm:e.born ∈ es.map (·.born):=g ▸ List.mem_map_of_mem he;obtain ⟨q,r,f⟩:=List.mem_map.1 hm;rw [← f];exact h.lt q r
 have s:∀ l:List MapEntry,l.map (·.born)=es.map (·.born)→l.Pairwise fun a b=>a.born<b.born:=fun l g=>by
  have:(es.map (·.born)).Pairwise (·<·):=List.pairwise_map.2 h.inc;rw [← g] at this;exact List.pairwise_map.1 this
 unfold putAt Jl;rw [Lp];cases n:Fj (lb.key k) es with
 | some p =>
  obtain ⟨i,u⟩:=p;rw [n] at d;exact ⟨d,o _ (Ya i),s _ (Ya i)⟩
 | none =>
  rw [n] at d;refine ⟨d,fun e he=>?_,?_⟩
  ·rcases List.mem_append.1 he with he | he
   ·exact Nat.lt_succ_of_lt (h.lt e he)
   ·simp at he;subst he;exact Nat.lt_succ_self _
  ·rw [List.pairwise_append];refine ⟨h.inc,by simp,fun a t b f=>?_⟩;simp at f;subst f;exact h.lt a t
theorem Ue.nil {c:Nat}:Ue (κ:=κ) (β:=β) μ [] c []:=⟨rfl,by simp,by simp⟩
def Yf (μ:M) (b:Nat) (m:List (κ×β)):Prop:=∃ es c,(∀ w,μ w→w.heap[b]?=some (.map ⟨es⟩ c))∧Ue μ es c m
theorem Yf.up {b:Nat}{m:List (κ×β)}(h:Yf μ b m) (l:da μ I):Yf I b m:=by
 obtain ⟨es,c,a,d⟩:=h;exact ⟨es,c,fun w hw=>a w (l w hw),d.up l⟩
theorem _root_.Go.bc.Sep.Xl {b c:Nat}{es:List MapEntry}{m:List (κ×β)}(h:ka μ w0 w (.map b es c::rs)) (hm:Ue μ es c m):∃ I,da μ I∧Yf I b m∧ka I w0 w rs :=
 ⟨_,fun _ hw=>hw.1,⟨es,c,fun _ hw=>hw.2,hm.up fun _ hw=>hw.1⟩,Sep.Du (B:=fun w=>w.heap[b]?=some (.map ⟨es⟩ c)) h fun _ hw=>hw⟩
theorem cx {x y:Operand}{xe aa:TypeId}{z:Value}{b c:Nat}{es:List MapEntry}{m:List (κ×β)}{k:κ}{zx:β}(a:P.underlying T=some (.map xe aa)) (d:P.underlying xe=some (lb.fk (κ:=κ))) (e:db fr x (.map (some b))) (f:db fr y (lb.key k))
  (i:∀ w,(zeroValue aa).run P w=.ok z w) (j:sh.Hi μ z zx) (l:w.heap[b]?=some (.map ⟨es⟩ c)) (he:Ue μ es c m)
  (h:∀ v,sh.Hi μ v ((Ge m k).getD zx)→Ng fr dst (.tuple #[v,.bool (Ge m k).isSome]) fun U=>K U ds w):Ed P (Oper.mk dst (.lookup T x y true) ty pos after g) fr ds w K Q:=by
 obtain ⟨U,pb⟩:=Sh fr dst (.tuple #[ij es (lb.key k) z,.bool (Rm es (lb.key k))]);refine Aw a d e f (lb.xe k) i l he.Ef.keys pb ?_;rw [he.Ef.has k] at pb;exact h _ (he.Ef.get k j) U pb
theorem yo {x y:Operand}{xe aa:TypeId}{z:Value}{b c:Nat}{es:List MapEntry}{m:List (κ×β)}{k:κ}{zx:β}(a:P.underlying T=some (.map xe aa)) (d:P.underlying xe=some (lb.fk (κ:=κ))) (e:db fr x (.map (some b))) (f:db fr y (lb.key k))
  (i:∀ w,(zeroValue aa).run P w=.ok z w) (j:sh.Hi μ z zx) (l:w.heap[b]?=some (.map ⟨es⟩ c)) (he:Ue μ es c m)
  (h:∀ v,sh.Hi μ v ((Ge m k).getD zx)→Ng fr dst v fun U=>K U ds w):Ed P (Oper.mk dst (.lookup T x y false) ty pos after g) fr ds w K Q:=by
 obtain ⟨U,pb⟩:=Sh fr dst (ij es (lb.key k) z);refine UA a d e f (lb.xe k) i l he.Ef.keys pb ?_;exact h _ (he.Ef.get k j) U pb
theorem lg.gC {α:Type}[Va α] [sh α] (hrv:∀ (v:Value) (x:α),sh.Hi μ v x→Pl μ v x){es:List MapEntry}{m:List (κ×α)}(h:lg μ es m) (k:κ):Te μ (ij es (lb.key k) (.pointer none)) (Ge m k):=by
 have:=h.look k;unfold ij;rw [Lp];cases a:Fj (lb.key k) es with
 | none=>rw [a] at this; simp only at this; rw [this]; rfl
 | some p=>rw [a] at this; obtain ⟨x,b,c⟩:=this; rw [b]; exact hrv _ _ c
theorem EA {α:Type}[Va α] [sh α] (hrv:∀ (v:Value) (x:α),sh.Hi μ v x→Pl μ v x){x y:Operand}{xe aa:TypeId}{b c:Nat}{es:List MapEntry}{m:List (κ×α)}{k:κ}(a:P.underlying T=some (.map xe aa)) (d:P.underlying xe=some (lb.fk (κ:=κ))) (e:db fr x (.map (some b))) (f:db fr y (lb.key k))
  (i:∀ w,(zeroValue aa).run P w=.ok (.pointer none) w) (j:w.heap[b]?=some (.map ⟨es⟩ c)) (he:Ue μ es c m)
  (h:∀ v,Te μ v (Ge m k)→Ng fr dst (.tuple #[v,.bool (Ge m k).isSome]) fun U=>K U ds w):Ed P (Oper.mk dst (.lookup T x y true) ty pos after g) fr ds w K Q:=by
 obtain ⟨U,pb⟩:=Sh fr dst (.tuple #[ij es (lb.key k) (.pointer none),.bool (Rm es (lb.key k))]);refine Aw a d e f (lb.xe k) i j he.Ef.keys pb ?_;rw [he.Ef.has k] at pb;exact h _ (he.Ef.gC hrv k) U pb
theorem KE {α:Type}[Va α] [sh α] (hrv:∀ (v:Value) (x:α),sh.Hi μ v x→Pl μ v x){x y:Operand}{xe aa:TypeId}{b c:Nat}{es:List MapEntry}{m:List (κ×α)}{k:κ}(a:P.underlying T=some (.map xe aa)) (d:P.underlying xe=some (lb.fk (κ:=κ))) (e:db fr x (.map (some b))) (f:db fr y (lb.key k))
  (i:∀ w,(zeroValue aa).run P w=.ok (.pointer none) w) (j:w.heap[b]?=some (.map ⟨es⟩ c)) (he:Ue μ es c m)
  (h:∀ v,Te μ v (Ge m k)→Ng fr dst v fun U=>K U ds w):Ed P (Oper.mk dst (.lookup T x y false) ty pos after g) fr ds w K Q:=by
 obtain ⟨U,pb⟩:=Sh fr dst (ij es (lb.key k) (.pointer none));refine UA a d e f (lb.xe k) i j he.Ef.keys pb ?_;exact h _ (he.Ef.gC hrv k) U pb
theorem pq {aa:TypeId}{z:Value}(h:(P.info? aa).map (fun i=>i.zero)=some (some z)):∀ w,(zeroValue aa).run P w=.ok z w:=fun w=>by
 cases a:P.info? aa with
 | none=>rw [a] at h; cases h
 | some i =>
  rw [a] at h;simp only [Option.map_some,Option.some.injEq] at h;simp [zeroValue,typeInfo,a,h]
theorem tn {x y z:Operand}{xe aa:TypeId}{v:Value}{b c k:Nat}{es:List MapEntry}{kk:κ}{m:List (κ×β)}{xx:β}(e:P.underlying T=some (.map xe aa)) (f:P.underlying xe=some (lb.fk (κ:=κ))) (i:db fr x (.map (some b))) (j:db fr y (lb.key kk)) (l:db fr z v) (Nb:sh.Hi μ v xx)
  (n:ka μ w0 w rs) (o:oc rs k (.map b es c)) (he:Ue μ es c m)
  (pb:Ze fr dst undef U) (h:∀ a d w' rs',Ue μ a d (pe m kk xx)→sc rs k (.map b a d) rs'→ka μ w0 w' rs'→K U ds w'):Ed P (Oper.mk dst (.mapUpdate T x y z) ty pos after g) fr ds w K Q :=
 xB e f i j (lb.xe kk) l n o he.Ef.keys pb fun w' rs'=>h _ _ w' rs' (he.put kk Nb)
theorem Jj {x y z:Operand}{xe aa:TypeId}{v:Value}{b c k:Nat}{es:List MapEntry}{kk:κ}{m:List (κ×β)}{xx:β}(e:P.underlying T=some (.map xe aa)) (f:P.underlying xe=some (lb.fk (κ:=κ))) (i:db fr x (.map (some b))) (j:db fr y (lb.key kk)) (l:db fr z v) (Nb:sh.Hi μ v xx)
  (n:ka μ w0 w rs) (o:oc rs k (.map b es c)) (he:Ue μ es c m)
  (pb:Ze fr dst undef U) (h:∀ a d w' rs',Ue μ a d (pe m kk xx)→sc rs k (.map b a d) rs'→ka μ w0 w' rs'→K U ds w'):Ed P (Oper.mk dst (.insert T x y z) ty pos after g) fr ds w K Q :=
 ⟨fun p q=>(tn (dst:=dst) (ty:=ty) (pos:=pos) (after:=after) (g:=g) e f i j l Nb n o he pb h).out p q⟩
theorem yB {x:Operand}{xe aa:TypeId}{b c:Nat}{es:List MapEntry}{m:List (κ×β)}(a:P.underlying T=some (.map xe aa)) (d:db fr x (.map (some b))) (e:w.heap[b]?=some (.map ⟨es⟩ c)) (he:Ue μ es c m)
  (f:Ze fr dst (.int .i64 m.length) U) (h:K U ds w):Ed P (Oper.mk dst (.call { callee:=.builtin .len,args:=#[x],argTypes:=#[T] }) ty pos after g) fr ds w K Q:=by
 refine Bh (w':=w) ?_ f h;have:=he.Ef.len;simp [execOp,resolve,invoke,builtin,Builtin.len_,goInt,d ds,run_underlying a,getObj,Sem.run,e,Result.andThen,this]
end
end Go.Xc
namespace Go.bc
abbrev Rg (m:List lb):List lb:=.k::m
abbrev Dd (s:Nat) (m:List lb):List lb:=.o s::m
theorem ye {m:List lb}{a0:Value}{l a:List Value}(h:Fe m l a):Fe (Rg m) (a0::l) (a0::a):=(.k h)
theorem ab {m:List lb}{s:Nat}{a0 b:Value}{l a:List Value}(h:Fe m l a):Fe (Dd s m) (a0::l) (b::a):=(.o h)
theorem dh {t:Nat→Value}{m:List lb}{a0:Value}{l a:List Value}(h:Se t m l a):Se t (Rg m) (a0::l) (a0::a):=(mk h)
theorem Ld {t:Nat→Value}{m:List lb}{s:Nat}{a0:Value}{l a:List Value}(h:Se t m l a):Se t (Dd s m) (a0::l) (t s::a):=(dc h)
abbrev rf (m:List lb):List lb:=.k::.k::m
abbrev Rf (s:Nat) (m:List lb):List lb:=.o s::.o (s+1)::m
theorem Ub {m:List lb}{a0 O:Value}{l a:List Value}(h:Fe m l a):Fe (rf m) (a0::O::l) (a0::O::a):=(.k (.k h))
theorem Pc {m:List lb}{s:Nat}{a0 O b L:Value}{l a:List Value}(h:Fe m l a):Fe (Rf s m) (a0::O::l) (b::L::a):=(.o (.o h))
theorem Df {t:Nat→Value}{m:List lb}{a0 O:Value}{l a:List Value}(h:Se t m l a):Se t (rf m) (a0::O::l) (a0::O::a):=(mk (mk h))
theorem Wf {t:Nat→Value}{m:List lb}{s:Nat}{a0 O:Value}{l a:List Value}(h:Se t m l a):Se t (Rf s m) (a0::O::l) (t s::t (s+1)::a):=(dc (dc h))
abbrev Sg (m:List lb):List lb:=.k::.k::.k::m
abbrev Yh (s:Nat) (m:List lb):List lb:=.o s::.o (s+1)::.o (s+2)::m
theorem od {m:List lb}{a0 O a2:Value}{l a:List Value}(h:Fe m l a):Fe (Sg m) (a0::O::a2::l) (a0::O::a2::a):=(.k (.k (.k h)))
theorem Sf {m:List lb}{s:Nat}{a0 O a2 b L Af:Value}{l a:List Value}(h:Fe m l a):Fe (Yh s m) (a0::O::a2::l) (b::L::Af::a):=(.o (.o (.o h)))
theorem eh {t:Nat→Value}{m:List lb}{a0 O a2:Value}{l a:List Value}(h:Se t m l a):Se t (Sg m) (a0::O::a2::l) (a0::O::a2::a):=(mk (mk (mk h)))
theorem ti {t:Nat→Value}{m:List lb}{s:Nat}{a0 O a2:Value}{l a:List Value}(h:Se t m l a):Se t (Yh s m) (a0::O::a2::l) (t s::t (s+1)::t (s+2)::a):=(dc (dc (dc h)))
abbrev vg (m:List lb):List lb:=.k::.k::.k::.k::m
abbrev Eh (s:Nat) (m:List lb):List lb:=.o s::.o (s+1)::.o (s+2)::.o (s+3)::m
theorem sd {m:List lb}{a0 O a2 a3:Value}{l a:List Value}(h:Fe m l a):Fe (vg m) (a0::O::a2::a3::l) (a0::O::a2::a3::a):=(.k (.k (.k (.k h))))
theorem xd {m:List lb}{s:Nat}{a0 O a2 a3 b L Af Ma:Value}{l a:List Value}(h:Fe m l a):Fe (Eh s m) (a0::O::a2::a3::l) (b::L::Af::Ma::a):=(.o (.o (.o (.o h))))
theorem Dg {t:Nat→Value}{m:List lb}{a0 O a2 a3:Value}{l a:List Value}(h:Se t m l a):Se t (vg m) (a0::O::a2::a3::l) (a0::O::a2::a3::a):=(mk (mk (mk (mk h))))
theorem Qh {t:Nat→Value}{m:List lb}{s:Nat}{a0 O a2 a3:Value}{l a:List Value}(h:Se t m l a):Se t (Eh s m) (a0::O::a2::a3::l) (t s::t (s+1)::t (s+2)::t (s+3)::a):=(dc (dc (dc (dc h))))
abbrev pg (m:List lb):List lb:=.k::.k::.k::.k::.k::m
abbrev il (s:Nat) (m:List lb):List lb:=.o s::.o (s+1)::.o (s+2)::.o (s+3)::.o (s+4)::m
theorem Jd {m:List lb}{a0 O a2 a3 a4:Value}{l a:List Value}(h:Fe m l a):Fe (pg m) (a0::O::a2::a3::a4::l) (a0::O::a2::a3::a4::a):=(.k (.k (.k (.k (.k h)))))
theorem Fi {m:List lb}{s:Nat}{a0 O a2 a3 a4 b L Af Ma sf:Value}{l a:List Value}(h:Fe m l a):Fe (il s m) (a0::O::a2::a3::a4::l) (b::L::Af::Ma::sf::a):=(.o (.o (.o (.o (.o h)))))
theorem zg {t:Nat→Value}{m:List lb}{a0 O a2 a3 a4:Value}{l a:List Value}(h:Se t m l a):Se t (pg m) (a0::O::a2::a3::a4::l) (a0::O::a2::a3::a4::a):=(mk (mk (mk (mk (mk h)))))
theorem nm {t:Nat→Value}{m:List lb}{s:Nat}{a0 O a2 a3 a4:Value}{l a:List Value}(h:Se t m l a):Se t (il s m) (a0::O::a2::a3::a4::l) (t s::t (s+1)::t (s+2)::t (s+3)::t (s+4)::a):=(dc (dc (dc (dc (dc h)))))
abbrev vh (m:List lb):List lb:=.k::.k::.k::.k::.k::.k::m
abbrev Ti (s:Nat) (m:List lb):List lb:=.o s::.o (s+1)::.o (s+2)::.o (s+3)::.o (s+4)::.o (s+5)::m
theorem Xd {m:List lb}{a0 O a2 a3 a4 a5:Value}{l a:List Value}(h:Fe m l a):Fe (vh m) (a0::O::a2::a3::a4::a5::l) (a0::O::a2::a3::a4::a5::a):=(.k (.k (.k (.k (.k (.k h))))))
theorem ff {m:List lb}{s:Nat}{a0 O a2 a3 a4 a5 b L Af Ma sf tg:Value}{l a:List Value}(h:Fe m l a):Fe (Ti s m) (a0::O::a2::a3::a4::a5::l) (b::L::Af::Ma::sf::tg::a):=(.o (.o (.o (.o (.o (.o h))))))
theorem Jh {t:Nat→Value}{m:List lb}{a0 O a2 a3 a4 a5:Value}{l a:List Value}(h:Se t m l a):Se t (vh m) (a0::O::a2::a3::a4::a5::l) (a0::O::a2::a3::a4::a5::a):=(mk (mk (mk (mk (mk (mk h))))))
theorem nj {t:Nat→Value}{m:List lb}{s:Nat}{a0 O a2 a3 a4 a5:Value}{l a:List Value}(h:Se t m l a):Se t (Ti s m) (a0::O::a2::a3::a4::a5::l) (t s::t (s+1)::t (s+2)::t (s+3)::t (s+4)::t (s+5)::a):=(dc (dc (dc (dc (dc (dc h))))))
abbrev ji (m:List lb):List lb:=.k::.k::.k::.k::.k::.k::.k::m
abbrev bj (s:Nat) (m:List lb):List lb:=.o s::.o (s+1)::.o (s+2)::.o (s+3)::.o (s+4)::.o (s+5)::.o (s+6)::m
theorem Lf {m:List lb}{a0 O a2 a3 a4 a5 Hb:Value}{l a:List Value}(h:Fe m l a):Fe (ji m) (a0::O::a2::a3::a4::a5::Hb::l) (a0::O::a2::a3::a4::a5::Hb::a):=(.k (.k (.k (.k (.k (.k (.k h)))))))
theorem wh {m:List lb}{s:Nat}{a0 O a2 a3 a4 a5 Hb b L Af Ma sf tg Hf:Value}{l a:List Value}(h:Fe m l a):Fe (bj s m) (a0::O::a2::a3::a4::a5::Hb::l) (b::L::Af::Ma::sf::tg::Hf::a):=(.o (.o (.o (.o (.o (.o (.o h)))))))
theorem yi {t:Nat→Value}{m:List lb}{a0 O a2 a3 a4 a5 Hb:Value}{l a:List Value}(h:Se t m l a):Se t (ji m) (a0::O::a2::a3::a4::a5::Hb::l) (a0::O::a2::a3::a4::a5::Hb::a):=(mk (mk (mk (mk (mk (mk (mk h)))))))
theorem Gj {t:Nat→Value}{m:List lb}{s:Nat}{a0 O a2 a3 a4 a5 Hb:Value}{l a:List Value}(h:Se t m l a):Se t (bj s m) (a0::O::a2::a3::a4::a5::Hb::l) (t s::t (s+1)::t (s+2)::t (s+3)::t (s+4)::t (s+5)::t (s+6)::a):=(dc (dc (dc (dc (dc (dc (dc h)))))))
abbrev Ui (m:List lb):List lb:=.k::.k::.k::.k::.k::.k::.k::.k::m
abbrev oj (s:Nat) (m:List lb):List lb:=.o s::.o (s+1)::.o (s+2)::.o (s+3)::.o (s+4)::.o (s+5)::.o (s+6)::.o (s+7)::m
theorem Tg {m:List lb}{a0 O a2 a3 a4 a5 Hb ic:Value}{l a:List Value}(h:Fe m l a):Fe (Ui m) (a0::O::a2::a3::a4::a5::Hb::ic::l) (a0::O::a2::a3::a4::a5::Hb::ic::a):=(.k (.k (.k (.k (.k (.k (.k (.k h))))))))
theorem qh {m:List lb}{s:Nat}{a0 O a2 a3 a4 a5 Hb ic b L Af Ma sf tg Hf jf:Value}{l a:List Value}(h:Fe m l a):Fe (oj s m) (a0::O::a2::a3::a4::a5::Hb::ic::l) (b::L::Af::Ma::sf::tg::Hf::jf::a):=(.o (.o (.o (.o (.o (.o (.o (.o h))))))))
theorem pj {t:Nat→Value}{m:List lb}{a0 O a2 a3 a4 a5 Hb ic:Value}{l a:List Value}(h:Se t m l a):Se t (Ui m) (a0::O::a2::a3::a4::a5::Hb::ic::l) (a0::O::a2::a3::a4::a5::Hb::ic::a):=(mk (mk (mk (mk (mk (mk (mk (mk h))))))))
theorem Nj {t:Nat→Value}{m:List lb}{s:Nat}{a0 O a2 a3 a4 a5 Hb ic:Value}{l a:List Value}(h:Se t m l a):Se t (oj s m) (a0::O::a2::a3::a4::a5::Hb::ic::l) (t s::t (s+1)::t (s+2)::t (s+3)::t (s+4)::t (s+5)::t (s+6)::t (s+7)::a):=(dc (dc (dc (dc (dc (dc (dc (dc h))))))))
abbrev ki (m:List lb):List lb:=.k::.k::.k::.k::.k::.k::.k::.k::.k::m
abbrev ek (s:Nat) (m:List lb):List lb:=.o s::.o (s+1)::.o (s+2)::.o (s+3)::.o (s+4)::.o (s+5)::.o (s+6)::.o (s+7)::.o (s+8)::m
theorem Xf {m:List lb}{a0 O a2 a3 a4 a5 Hb ic hb:Value}{l a:List Value}(h:Fe m l a):Fe (ki m) (a0::O::a2::a3::a4::a5::Hb::ic::hb::l) (a0::O::a2::a3::a4::a5::Hb::ic::hb::a):=(.k (.k (.k (.k (.k (.k (.k (.k (.k h)))))))))
theorem Rh {m:List lb}{s:Nat}{a0 O a2 a3 a4 a5 Hb ic hb b L Af Ma sf tg Hf jf kf:Value}{l a:List Value}(h:Fe m l a):Fe (ek s m) (a0::O::a2::a3::a4::a5::Hb::ic::hb::l) (b::L::Af::Ma::sf::tg::Hf::jf::kf::a):=(.o (.o (.o (.o (.o (.o (.o (.o (.o h)))))))))
theorem zi {t:Nat→Value}{m:List lb}{a0 O a2 a3 a4 a5 Hb ic hb:Value}{l a:List Value}(h:Se t m l a):Se t (ki m) (a0::O::a2::a3::a4::a5::Hb::ic::hb::l) (a0::O::a2::a3::a4::a5::Hb::ic::hb::a):=(mk (mk (mk (mk (mk (mk (mk (mk (mk h)))))))))
theorem Rk {t:Nat→Value}{m:List lb}{s:Nat}{a0 O a2 a3 a4 a5 Hb ic hb:Value}{l a:List Value}(h:Se t m l a):Se t (ek s m) (a0::O::a2::a3::a4::a5::Hb::ic::hb::l) (t s::t (s+1)::t (s+2)::t (s+3)::t (s+4)::t (s+5)::t (s+6)::t (s+7)::t (s+8)::a):=(dc (dc (dc (dc (dc (dc (dc (dc (dc h)))))))))
abbrev we (m:List lb):List lb:=.k::.k::.k::.k::.k::.k::.k::.k::.k::.k::m
abbrev ld (s:Nat) (m:List lb):List lb:=.o s::.o (s+1)::.o (s+2)::.o (s+3)::.o (s+4)::.o (s+5)::.o (s+6)::.o (s+7)::.o (s+8)::.o (s+9)::m
theorem ec {m:List lb}{a0 O a2 a3 a4 a5 Hb ic hb a9:Value}{l a:List Value}(h:Fe m l a):Fe (we m) (a0::O::a2::a3::a4::a5::Hb::ic::hb::a9::l) (a0::O::a2::a3::a4::a5::Hb::ic::hb::a9::a):=(.k (.k (.k (.k (.k (.k (.k (.k (.k (.k h))))))))))
theorem gb {m:List lb}{s:Nat}{a0 O a2 a3 a4 a5 Hb ic hb a9 b L Af Ma sf tg Hf jf kf Ec:Value}{l a:List Value}(h:Fe m l a):Fe (ld s m) (a0::O::a2::a3::a4::a5::Hb::ic::hb::a9::l) (b::L::Af::Ma::sf::tg::Hf::jf::kf::Ec::a):=(.o (.o (.o (.o (.o (.o (.o (.o (.o (.o h))))))))))
theorem Be {t:Nat→Value}{m:List lb}{a0 O a2 a3 a4 a5 Hb ic hb a9:Value}{l a:List Value}(h:Se t m l a):Se t (we m) (a0::O::a2::a3::a4::a5::Hb::ic::hb::a9::l) (a0::O::a2::a3::a4::a5::Hb::ic::hb::a9::a):=(mk (mk (mk (mk (mk (mk (mk (mk (mk (mk h))))))))))
theorem qd {t:Nat→Value}{m:List lb}{s:Nat}{a0 O a2 a3 a4 a5 Hb ic hb a9:Value}{l a:List Value}(h:Se t m l a):Se t (ld s m) (a0::O::a2::a3::a4::a5::Hb::ic::hb::a9::l) (t s::t (s+1)::t (s+2)::t (s+3)::t (s+4)::t (s+5)::t (s+6)::t (s+7)::t (s+8)::t (s+9)::a):=(dc (dc (dc (dc (dc (dc (dc (dc (dc (dc h))))))))))
abbrev Nc (m:List lb):List lb:=.k::.k::.k::.k::.k::.k::.k::.k::.k::.k::.k::.k::.k::.k::.k::.k::.k::.k::.k::.k::m
abbrev nf (s:Nat) (m:List lb):List lb:=.o s::.o (s+1)::.o (s+2)::.o (s+3)::.o (s+4)::.o (s+5)::.o (s+6)::.o (s+7)::.o (s+8)::.o (s+9)::.o (s+10)::.o (s+11)::.o (s+12)::.o (s+13)::.o (s+14)::.o (s+15)::.o (s+16)::.o (s+17)::.o (s+18)::.o (s+19)::m
theorem eb {m:List lb}{a0 O a2 a3 a4 a5 Hb ic hb a9 Td Cc a12 a Fc je b ed c d:Value}{l e:List Value}(h:Fe m l e):Fe (Nc m) (a0::O::a2::a3::a4::a5::Hb::ic::hb::a9::Td::Cc::a12::a::Fc::je::b::ed::c::d::l) (a0::O::a2::a3::a4::a5::Hb::ic::hb::a9::Td::Cc::a12::a::Fc::je::b::ed::c::d::e):=(.k (.k (.k (.k (.k (.k (.k (.k (.k (.k (.k (.k (.k (.k (.k (.k (.k (.k (.k (.k h))))))))))))))))))))
theorem qb {m:List lb}{s:Nat}{a0 O a2 a3 a4 a5 Hb ic hb a9 Td Cc a12 b Fc je c ed d e f L Af Ma sf tg Hf jf kf Ec Vi g ze Eg i j k n Hg hd:Value}{l a:List Value}(h:Fe m l a):Fe (nf s m) (a0::O::a2::a3::a4::a5::Hb::ic::hb::a9::Td::Cc::a12::b::Fc::je::c::ed::d::e::l) (f::L::Af::Ma::sf::tg::Hf::jf::kf::Ec::Vi::g::ze::Eg::i::j::k::n::Hg::hd::a):=(.o (.o (.o (.o (.o (.o (.o (.o (.o (.o (.o (.o (.o (.o (.o (.o (.o (.o (.o (.o h))))))))))))))))))))
theorem Qc {t:Nat→Value}{m:List lb}{a0 O a2 a3 a4 a5 Hb ic hb a9 Td Cc a12 a Fc je b ed c d:Value}{l e:List Value}(h:Se t m l e):Se t (Nc m) (a0::O::a2::a3::a4::a5::Hb::ic::hb::a9::Td::Cc::a12::a::Fc::je::b::ed::c::d::l) (a0::O::a2::a3::a4::a5::Hb::ic::hb::a9::Td::Cc::a12::a::Fc::je::b::ed::c::d::e):=(mk (mk (mk (mk (mk (mk (mk (mk (mk (mk (mk (mk (mk (mk (mk (mk (mk (mk (mk (mk h))))))))))))))))))))
theorem vf {t:Nat→Value}{m:List lb}{s:Nat}{a0 O a2 a3 a4 a5 Hb ic hb a9 Td Cc a12 b Fc je c ed d e:Value}{l a:List Value}(h:Se t m l a):Se t (nf s m) (a0::O::a2::a3::a4::a5::Hb::ic::hb::a9::Td::Cc::a12::b::Fc::je::c::ed::d::e::l) (t s::t (s+1)::t (s+2)::t (s+3)::t (s+4)::t (s+5)::t (s+6)::t (s+7)::t (s+8)::t (s+9)::t (s+10)::t (s+11)::t (s+12)::t (s+13)::t (s+14)::t (s+15)::t (s+16)::t (s+17)::t (s+18)::t (s+19)::a):=(dc (dc (dc (dc (dc (dc (dc (dc (dc (dc (dc (dc (dc (dc (dc (dc (dc (dc (dc (dc h))))))))))))))))))))
abbrev ie (m:List lb):List lb:=.k::.k::.k::.k::.k::.k::.k::.k::.k::.k::.k::.k::.k::.k::.k::.k::.k::.k::.k::.k::.k::.k::.k::.k::.k::.k::.k::.k::.k::.k::.k::.k::.k::.k::.k::.k::.k::.k::.k::.k::.k::.k::.k::.k::.k::.k::.k::.k::.k::.k::m
abbrev Si (s:Nat) (m:List lb):List lb:=.o s::.o (s+1)::.o (s+2)::.o (s+3)::.o (s+4)::.o (s+5)::.o (s+6)::.o (s+7)::.o (s+8)::.o (s+9)::.o (s+10)::.o (s+11)::.o (s+12)::.o (s+13)::.o (s+14)::.o (s+15)::.o (s+16)::.o (s+17)::.o (s+18)::.o (s+19)::.o (s+20)::.o (s+21)::.o (s+22)::.o (s+23)::.o (s+24)::.o (s+25)::.o (s+26)::.o (s+27)::.o (s+28)::.o (s+29)::.o (s+30)::.o (s+31)::.o (s+32)::.o (s+33)::.o (s+34)::.o (s+35)::.o (s+36)::.o (s+37)::.o (s+38)::.o (s+39)::.o (s+40)::.o (s+41)::.o (s+42)::.o (s+43)::.o (s+44)::.o (s+45)::.o (s+46)::.o (s+47)::.o (s+48)::.o (s+49)::m
theorem Mb {m:List lb}{a0 O a2 a3 a4 a5 Hb ic hb a9 Td Cc a12 a Fc je b ed c d a20 a21 a22 a23 a24 a25 a26 e a28 f g a31 i j n o p a37 q r a40 s t u v w a46 x y a49:Value}{l z:List Value}(h:Fe m l z):Fe (ie m) (a0::O::a2::a3::a4::a5::Hb::ic::hb::a9::Td::Cc::a12::a::Fc::je::b::ed::c::d::a20::a21::a22::a23::a24::a25::a26::e::a28::f::g::a31::i::j::n::o::p::a37::q::r::a40::s::t::u::v::w::a46::x::y::a49::l) (a0::O::a2::a3::a4::a5::Hb::ic::hb::a9::Td::Cc::a12::a::Fc::je::b::ed::c::d::a20::a21::a22::a23::a24::a25::a26::e::a28::f::g::a31::i::j::n::o::p::a37::q::r::a40::s::t::u::v::w::a46::x::y::a49::z):=(.k (.k (.k (.k (.k (.k (.k (.k (.k (.k (.k (.k (.k (.k (.k (.k (.k (.k (.k (.k (.k (.k (.k (.k (.k (.k (.k (.k (.k (.k (.k (.k (.k (.k (.k (.k (.k (.k (.k (.k (.k (.k (.k (.k (.k (.k (.k (.k (.k (.k h))))))))))))))))))))))))))))))))))))))))))))))))))
theorem Pb {m:List lb}{s:Nat}{a0 O a2 a3 a4 a5 Hb ic hb a9 Td Cc a12 b Fc je c ed d e a20 a21 a22 a23 a24 a25 a26 f a28 g i a31 j k n p q a37 r t a40 u v w x y a46 z A a49 B L Af Ma sf tg Hf jf kf Ec Vi C ze Eg D F G H Hg hd K mi M N xf Tf P Q R S T yf V W X Y Z gc hc lc rc fd id md rd wd Fd Id be ce:Value}{l a:List Value}(h:Fe m l a):Fe (Si s m) (a0::O::a2::a3::a4::a5::Hb::ic::hb::a9::Td::Cc::a12::b::Fc::je::c::ed::d::e::a20::a21::a22::a23::a24::a25::a26::f::a28::g::i::a31::j::k::n::p::q::a37::r::t::a40::u::v::w::x::y::a46::z::A::a49::l) (B::L::Af::Ma::sf::tg::Hf::jf::kf::Ec::Vi::C::ze::Eg::D::F::G::H::Hg::hd::K::mi::M::N::xf::Tf::P::Q::R::S::T::yf::V::W::X::Y::Z::gc::hc::lc::rc::fd::id::md::rd::wd::Fd::Id::be::ce::a):=(.o (.o (.o (.o (.o (.o (.o (.o (.o (.o (.o (.o (.o (.o (.o (.o (.o (.o (.o (.o (.o (.o (.o (.o (.o (.o (.o (.o (.o (.o (.o (.o (.o (.o (.o (.o (.o (.o (.o (.o (.o (.o (.o (.o (.o (.o (.o (.o (.o (.o h))))))))))))))))))))))))))))))))))))))))))))))))))
theorem qe {t:Nat→Value}{m:List lb}{a0 O a2 a3 a4 a5 Hb ic hb a9 Td Cc a12 a Fc je b ed c d a20 a21 a22 a23 a24 a25 a26 e a28 f g a31 i j k n o a37 p q a40 r s u v w a46 x y a49:Value}{l z:List Value}(h:Se t m l z):Se t (ie m) (a0::O::a2::a3::a4::a5::Hb::ic::hb::a9::Td::Cc::a12::a::Fc::je::b::ed::c::d::a20::a21::a22::a23::a24::a25::a26::e::a28::f::g::a31::i::j::k::n::o::a37::p::q::a40::r::s::u::v::w::a46::x::y::a49::l) (a0::O::a2::a3::a4::a5::Hb::ic::hb::a9::Td::Cc::a12::a::Fc::je::b::ed::c::d::a20::a21::a22::a23::a24::a25::a26::e::a28::f::g::a31::i::j::k::n::o::a37::p::q::a40::r::s::u::v::w::a46::x::y::a49::z):=(mk (mk (mk (mk (mk (mk (mk (mk (mk (mk (mk (mk (mk (mk (mk (mk (mk (mk (mk (mk (mk (mk (mk (mk (mk (mk (mk (mk (mk (mk (mk (mk (mk (mk (mk (mk (mk (mk (mk (mk (mk (mk (mk (mk (mk (mk (mk (mk (mk (mk h))))))))))))))))))))))))))))))))))))))))))))))))))
theorem lj {t:Nat→Value}{m:List lb}{s:Nat}{a0 O a2 a3 a4 a5 Hb ic hb a9 Td Cc a12 b Fc je c ed d e a20 a21 a22 a23 a24 a25 a26 f a28 g i a31 j k n o p a37 q r a40 u v w x y a46 z A a49:Value}{l a:List Value}(h:Se t m l a):Se t (Si s m) (a0::O::a2::a3::a4::a5::Hb::ic::hb::a9::Td::Cc::a12::b::Fc::je::c::ed::d::e::a20::a21::a22::a23::a24::a25::a26::f::a28::g::i::a31::j::k::n::o::p::a37::q::r::a40::u::v::w::x::y::a46::z::A::a49::l) (t s::t (s+1)::t (s+2)::t (s+3)::t (s+4)::t (s+5)::t (s+6)::t (s+7)::t (s+8)::t (s+9)::t (s+10)::t (s+11)::t (s+12)::t (s+13)::t (s+14)::t (s+15)::t (s+16)::t (s+17)::t (s+18)::t (s+19)::t (s+20)::t (s+21)::t (s+22)::t (s+23)::t (s+24)::t (s+25)::t (s+26)::t (s+27)::t (s+28)::t (s+29)::t (s+30)::t (s+31)::t (s+32)::t (s+33)::t (s+34)::t (s+35)::t (s+36)::t (s+37)::t (s+38)::t (s+39)::t (s+40)::t (s+41)::t (s+42)::t (s+43)::t (s+44)::t (s+45)::t (s+46)::t (s+47)::t (s+48)::t (s+49)::a):=(dc (dc (dc (dc (dc (dc (dc (dc (dc (dc (dc (dc (dc (dc (dc (dc (dc (dc (dc (dc (dc (dc (dc (dc (dc (dc (dc (dc (dc (dc (dc (dc (dc (dc (dc (dc (dc (dc (dc (dc (dc (dc (dc (dc (dc (dc (dc (dc (dc (dc h))))))))))))))))))))))))))))))))))))))))))))))))))
theorem Da {m:List lb}{v a:Value}{l b:List Value}(h:Fe m l b):Fe (.i v::m) (a::l) (v::b):=.i h
theorem qa {l:List Value}:Fe [] l l:=.z
end Go.bc
namespace Go.bc
open Go.RowKit
section
variable {P:Program}{Q:Exit→Act→World→Prop}{ops:Array Oper}{fr U:List Value}{ds:List Deferred}{w:World}
theorem cr (ops:Array Oper) (fr:List Value) (ds:List Deferred) (j:Nat):yielded ops (F fr ds).tmps j=match (ops[j]?).bind (·.dst) with | some s=>(match (F fr ds).eval (.tmp s) with | .bool b=>some b | _=>none) | none=>none:=by
 unfold yielded;cases h:(ops[j]?).bind (·.dst) with
 | none=>simp
 | some s =>
  simp only [Option.bind_some,F,Act.eval];cases a:(⟨fr⟩:Array Value)[s]? with
  | none =>
   have:(⟨fr⟩:Array Value).getD s undef=undef:=by simp [Array.getD_eq_getD_getElem?,a]
   first
    | (simp [a,undef]; done)
    | (rw [this]; simp [undef])
  | some v =>
   have:(⟨fr⟩:Array Value).getD s undef=v:=by simp [Array.getD_eq_getD_getElem?,a]
   first
    | (simp [a]; done)
    | (rw [this]; cases v <;> rfl)
theorem wanted_put {o p:Oper}{fr:List Value}{ds ds':List Deferred}{g:List Value→List Value}(g3:∀ (y:Operand),(∀ e,p.dst=some e→vn y≠some e)→(F (g fr) ds).eval y=(F fr ds).eval y) (c:∀ e,p.dst=some e→(reads ops o).contains e=false) :
  Region.wanted o (yielded ops (F (g fr) ds').tmps)=Region.wanted o (yielded ops (F fr ds').tmps):=by
 have nc:(F (g fr) ds').tmps=(F (g fr) ds).tmps:=rfl;have Ya:(F fr ds').tmps=(F fr ds).tmps:=rfl;rw [nc,Ya];unfold Region.wanted;cases d:o.guard with
 | none=>rfl
 | some f =>
  obtain ⟨j,b⟩:=f;simp only;have:yielded ops (F (g fr) ds).tmps j=yielded ops (F fr ds).tmps j:=by
   rw [cr,cr];cases h:(ops[j]?).bind (·.dst) with
   | none=>rfl
   | some s =>
    simp only;rw [g3 (.tmp s) fun e he a=>by
     simp [vn] at a;subst a;have:=c s he;unfold reads at this;rw [d] at this;simp [h] at this]
  first
   | rw [this]
   | simp [this]
theorem Uy {rd:Bool}{i d:Nat}(s:Uh Q d){o:Oper}{v:Value}(z:ops[i]?=some o) (pb:o.dst=some d){wt:Bool}(A:wt=false→v=undef){w0:World} :
  ∀ (a b:List Nat) (fr:List Value) (ds:List Deferred) (w:World),
   (∀ j ∈ a,match ops[j]? with
    | some p=>Lj p.op=true∧(reads ops p).contains d=false∧p.dst≠some d∧(∀ e,p.dst=some e→(reads ops o).contains e=false)∧(rd=true→quiet p.op=true)
    | none=>True) →
   (rd=true→w=w0)→Lj o.op=true→Region.wanted o (yielded ops (F fr ds).tmps)=wt →
   (wt=true→∀ ds w,(rd=true→w=w0)→(execOp (F fr ds).eval o).run P w=.ok (.value v) w) →
   wpOps P ops Q (a++b) (F (fr.set d v) ds) w→wpOps P ops Q (a++i::b) (F fr ds) w
 | [],b,fr,ds,w,_,hw,t,c,u,h=>by
  simp only [List.nil_append] at h ⊢;simp only [wpOps,z];cases wt with
  | true =>
   rw [if_pos c];left;unfold Oper.wp;rw [u rfl ds w hw,Oper.upon_value,pb];rw [show (F fr ds).put (some d) v=F (fr.set d v) ds from ia rfl ds];exact h
  | false =>
   rw [if_neg (by rw [c];simp),pb,← A rfl];rw [show (F fr ds).put (some d) v=F (fr.set d v) ds from ia rfl ds];exact h
 | j::a,b,fr,ds,w,R,hw,t,c,u,h=>by
  have B:=R j (by simp);have S:∀ k ∈ a,_:=fun k l=>R k (by simp [l]);simp only [List.cons_append,wpOps] at h ⊢;cases T:ops[j]? with
  | none =>
   rw [T] at h;simp only at h ⊢;exact Uy s z pb A a b fr ds w S hw t c u h
  | some p =>
   rw [T] at h B;simp only at h B ⊢;obtain ⟨V,C,Y,W,D⟩:=B;rw [yv (fr:=fr) (v:=v) (ds:=ds) (ds':=ds) C] at h;have key:∀ (x:Value) (w':World) (ds':List Deferred),(rd=true→w'=w0)→wpOps P ops Q (a++b) ((F (fr.set d v) ds').put p.dst x) w'→wpOps P ops Q (a++i::b) ((F fr ds').put p.dst x) w':=by
    intro x w' ds' m l;obtain ⟨g,g1,g2,g3⟩:=put_eq fr ds' p.dst x;have Z:=wanted_put (ops:=ops) (o:=o) (p:=p) (ds':=ds') (fun y G=>g3 fr y ds' ds' G) W;rw [g1] at l ⊢;rw [g2 _ _ _ Y] at l;refine Uy s z pb A a b (g fr) ds' w' S m t (Z.trans c) (fun gc n hc lc=>?_) l;rw [show execOp (F (g fr) n).eval o=execOp (F fr n).eval o from execOp_congr o t fun y G=>g3 fr y n n fun e he rc=>by
     exact kt (W e he) y G rc]
    exact u gc n hc lc
   by_cases X:Region.wanted p (yielded ops (F fr ds).tmps)=true
   ·rw [if_pos X] at h ⊢;rcases h with h | h
    ·left;unfold Oper.wp at h ⊢;rw [po (ds':=ds) V C] at h;cases q:(execOp (F fr ds).eval p).run P w with
     | halt e w' =>
      rw [q] at h;cases e<;>first | exact h | exact s _ _ _ _ _ h
     | ok r w' =>
      rw [q] at h;have m:rd=true→w'=w0:=fun e=>(jo (D e) q).1.trans (hw e);cases r with
      | value x=>exact key x w' ds m h
      | skip=>exact key undef w' ds m h
      | defer fd=>exact key undef w' (fd::ds) m h
      | enter f args =>
       have H:rd=true→False:=fun e=>by obtain ⟨_,x,K⟩:=jo (D e) q;cases K
       rw [Oper.upon_enter] at h ⊢;refine Calls.mono h fun e M he=>?_;cases e with
       | returned x=>exact key x M ds (fun e=>(H e).elim) he
       | panicked id=>exact s _ _ _ _ _ he
       | outgrown=>exact he
      | row r args =>
       have H:rd=true→False:=fun e=>by obtain ⟨_,x,K⟩:=jo (D e) q;cases K
       rw [Oper.upon_row] at h ⊢;exact Rows.mono h fun x M he=>key x M ds (fun e=>(H e).elim) he
      | _=>exact h
    ·right;refine ⟨?_,h.2⟩;have N:=h.1;unfold Oper.asks at N ⊢;rw [po (ds':=ds) V C] at N;exact N
   ·rw [if_neg X] at h ⊢;exact key undef w ds hw h
theorem FA {o:Oper}{j d:Nat}{b kg:Bool}(a:o.guard=some (j,b)) (c:(ops[j]?).bind (·.dst)=some d) (e:oc fr d (.bool kg)):Region.wanted o (yielded ops (F fr ds).tmps)=(kg == b):=by
 unfold Region.wanted;rw [a];simp only;have:yielded ops (F fr ds).tmps j=some kg:=by
  rw [cr,c];simp only;rw [aa e ds]
 rw [this];cases b<;>cases kg<;>rfl
theorem ME {o:Oper}{j d:Nat}{b:Bool}(a:o.guard=some (j,b)) (c:(ops[j]?).bind (·.dst)=some d) (e:oc fr d undef):Region.wanted o (yielded ops (F fr ds).tmps)=false:=by
 unfold Region.wanted;rw [a];simp only;have:yielded ops (F fr ds).tmps j=none:=by
  rw [cr,c];simp only;rw [aa e ds];rfl
 rw [this];rfl
theorem Ab {o:Oper}(a:o.guard=none):Region.wanted o (yielded ops (F fr ds).tmps)=true:=by simp [Region.wanted,a]
theorem qo {o:Oper}{j d:Nat}{b:Bool}(a:o.guard=some (j,b)) (c:(ops[j]?).bind (·.dst)=some d) (e:oc fr d (.bool b)):Region.wanted o (yielded ops (F fr ds).tmps)=true :=
 (FA a c e).trans (by cases b<;>rfl)
end
end Go.bc
namespace Go.bc
open Go.RowKit
section
variable {P:Program}{Q:Exit→Act→World→Prop}{ops:Array Oper}{fr U:List Value}{ds:List Deferred}{w:World}
def waits (ops:Array Oper) (R S:List Nat) (i:Nat):Bool:=S.all fun j=>j == i || S.any fun k=>(bk ops j).contains k && R.contains k
theorem Xj.later {R d:List Nat}(h:Xj ops R d) (m:R.Nodup){i:Nat}{S:List Nat}(n:∀ j ∈ S,j=i∨∃ k ∈ S,k ∈ bk ops j∧k ∈ R):∀ a c,d=a++i::c→i ∉ a→∀ j ∈ a,j ∉ S:=by
 induction h with
 | z=>intro a c h; simp at h
 | @s R d k p t r =>
  intro a c h o j b;cases a with
  | nil=>cases b
  | cons e a =>
   simp only [List.cons_append,List.cons.injEq] at h;obtain ⟨rfl,h⟩:=h;have he:k ∉ S:=fun hm=>by
    rcases n k hm with rfl | ⟨q,f,g,l⟩
    ·exact o (by simp)
    ·exact Gz p g l
   rcases List.mem_cons.1 b with rfl | b
   ·exact he
   ·refine r (m.erase k) (fun j b=>?_) a c h (fun hm=>o (by simp [hm])) j b;rcases n j b with rfl | ⟨q,f,g,l⟩
    ·exact .inl rfl
    ·exact .inr ⟨q,f,g,(m.mem_erase_iff).2 ⟨fun e=>he (e ▸ f),l⟩⟩
def au (ops:Array Oper) (S R:List Nat) (i:Nat):Bool :=
 match ops[i]? with
 | some o=>match o.dst with
  | some d=>Lj o.op && R.all fun j=>S.contains j || (match ops[j]? with
    | some p=>Lj p.op && !(reads ops p).contains d && p.dst != some d && (match p.dst with | some e=>!(reads ops o).contains e | none=>true) && quiet p.op
    | none=>true)
  | _=>false
 | none=>false
theorem fE {R R':List Nat}{i:Nat}(S:List Nat){wt:Bool}{dst:Tmp}{op:Op}{ty:TypeId}{pos:String}{after:Array Edge}{m:Option (Nat×Bool)}{v:Value}(A:Uh Q dst) (n:(decide R.Nodup && enabled ops R i && waits ops R S i && au ops S R i)=true) (B:R.erase i=R') (o:ops[i]?=some ⟨some dst,op,ty,pos,after,m⟩)
  (C:Region.wanted ⟨some dst,op,ty,pos,after,m⟩ (yielded ops (F fr ds).tmps)=wt) (D:wt=false→v=undef)
  (Nb:wt=true→∀ ds w',w'=w→(execOp (F fr ds).eval ⟨some dst,op,ty,pos,after,m⟩).run P w'=.ok (.value v) w') (f:sc fr dst v U) (h:ni P ops Q R' U ds w):ni P ops Q R fr ds w:=⟨fun X q=>by
 simp only [Bool.and_eq_true,decide_eq_true_eq] at n;obtain ⟨⟨⟨r,s⟩,t⟩,g⟩:=n;obtain ⟨u,x,rfl,G,y⟩:=q.split r (ql s) s;have H:=Xj.later (S:=S) q r (fun j l=>by
  unfold waits at t;have:=List.all_eq_true.1 t j l;simp only [Bool.or_eq_true,beq_iff_eq,List.any_eq_true,Bool.and_eq_true,List.contains_iff_mem] at this;rcases this with h | ⟨k,k1,K,M⟩
  ·exact .inl h
  ·exact .inr ⟨k,k1,K,M⟩) u x rfl (fun hm=>(y i hm).2.1 rfl)
 unfold au at g;simp only [o,Bool.and_eq_true,List.all_eq_true,Bool.or_eq_true,List.contains_iff_mem] at g;unfold sc at f;subst f;subst B;refine Uy A o rfl D (rd:=true) (w0:=w) (v:=v) u x fr ds w (fun j l=>?_) (fun _=>rfl) g.1 C (fun a b c d=>Nb a b c (d rfl)) (h.out _ G);obtain ⟨a,b,c⟩:=y j l;have:=g.2 j a;rcases this with h | h
 ·exact absurd h (H j l)
 ·cases f:ops[j]? with
  | none=>trivial
  | some p =>
   rw [f] at h;simp only [Bool.and_eq_true,Bool.not_eq_true',bne_iff_ne,ne_eq] at h;obtain ⟨⟨⟨⟨N,T⟩,V⟩,z⟩,W⟩:=h;refine ⟨N,T,V,fun e he=>?_,fun e=>W⟩;rw [he] at z;simpa using z⟩
theorem KG {R R':List Nat}{i:Nat}(S:List Nat){dst:Tmp}{op:Op}{ty:TypeId}{pos:String}{after:Array Edge}{v:Value}(a:Uh Q dst) (b:(decide R.Nodup && enabled ops R i && waits ops R S i && au ops S R i)=true) (c:R.erase i=R') (d:ops[i]?=some ⟨some dst,op,ty,pos,after,none⟩)
  (Nb:Ak P ⟨some dst,op,ty,pos,after,none⟩ fr w v) (e:sc fr dst v U) (h:ni P ops Q R' U ds w):ni P ops Q R fr ds w :=
 fE S (wt:=true) a b c d (Ab rfl) (fun h=>by cases h) (fun _ ds w' hw=>by rw [hw];exact Nb.out ds) e h
end
end Go.bc
namespace Go.bc
open Go.RowKit
section
variable {P:Program}{Q:Exit→Act→World→Prop}{K:List Value→List Deferred→World→Prop}{fr U:List Value}{ds:List Deferred}{w:World}
variable {dst:Option Tmp}{ty:TypeId}{pos:String}{after:Array Edge}{g:Option (Nat×Bool)}
variable {S Gd:Nat→Prop}{w0:World}{rs rs':List jb}{A:World→Prop}
variable {T:TypeId}{d:TypeDesc}{zf:Bool}{td:List Value}{n m:Nat}
inductive Io (fr:List Value) (n:Nat):Nat→List (Nat×Operand)→List Value→Prop where
 | z {i:Nat}:Io fr n i [] []
 | s {i:Nat} {x:Operand} {v:Value} {cs rest:List Value} {xs:List (Nat×Operand)} (a:db fr x v) (Nb:v.cells=⟨cs⟩) (b:cs.length=n) (t:Io fr n (i+1) xs rest):Io fr n i ((i,x)::xs) (cs++rest)
theorem Io.fill {i:Nat}{xs:List (Nat×Operand)}{cells:List Value}(h:Io fr n i xs cells):∀ a:List Value,a.length=i*n+cells.length →
  Instr.fill (fun i=>some (i*n,n)) ⟨a⟩ (xs.map fun p=>(p.1,(F fr ds).eval p.2))=some ⟨a.take (i*n)++cells⟩:=by
 induction h with
 | z=>intro a b; simp at b; simp [Instr.fill,← b]
 | @s i x v cs rest xs f Nb c t g =>
  intro a b;simp only [List.length_append] at b;have d:(i+1)*n=i*n+n:=by rw [Nat.add_mul,Nat.one_mul]
  simp only [List.map_cons,Instr.fill,f ds,Nb];have nc:¬ (((⟨cs⟩:Array Value).size≠n || i*n+(⟨cs⟩:Array Value).size > (⟨a⟩:Array Value).size)=true):=by simp [c,b]
  rw [if_neg nc];have j:=br cs (i*n) 0 a (by omega);have Ya:(⟨cs⟩:Array Value).zipIdx.toList=cs.zipIdx 0:=by simp
  have e:(⟨cs⟩:Array Value).zipIdx.foldl (fun (cs:Array Value) (p:Value×Nat)=>cs.setIfInBounds (i*n+p.2) p.1) ⟨a⟩=⟨a.take (i*n+0)++cs++a.drop (i*n+0+cs.length)⟩:=by
   rw [← Array.foldl_toList,Ya];exact j
  first
   | rw [e]
   | (erw [e])
  rw [g _ (by simp [d,c,b];omega)];congr 2;rw [d,c,Nat.add_zero];have:(a.take (i*n)++cs).length=i*n+n:=by simp [c];omega
  rw [← this,List.take_left,List.append_assoc]
theorem Jo {e:TypeId}{len:Nat}{xs:List (Nat×Operand)}{cells:List Value}(f:P.underlying T=some (.slice e)) (c:kc P e zf td n m) (a:(decide (0<n) && decide (n≤1000) && decide (0<len) && decide (len≤1000))=true) (j:Io fr n 0 xs cells) (k:cells.length=len*n) (l:Sep S Gd w0 w rs A)
  (h:∀ b w',w.heap.size≤b→Sep S Gd w0 w' (.ba b e cells::rs) A→Ng fr dst (.slice (some ⟨b,0,none⟩) len len) fun U=>K U ds w'):Ed P (Oper.mk dst (.buildSlice T len ⟨xs⟩) ty pos after g) fr ds w K Q:=by
 obtain ⟨U,pb⟩:=Sh fr dst (.slice (some ⟨w.heap.size,0,none⟩) len len);refine Bh (v:=.slice (some ⟨w.heap.size,0,none⟩) len len) (w':=w.alloc (.cells ⟨cells⟩ e)) ?_ pb (h _ _ (Nat.le_refl _) (l.alloc rfl (heap_alloc_new w _)) U pb);obtain ⟨z,o,hc⟩:=c.zero (w:=w);have q:=c.sizeOf (w:=w);simp only [Bool.and_eq_true,decide_eq_true_eq] at a;have hmul:len*n≤1000*1000:=Nat.mul_le_mul a.2 a.1.1.2;have r:¬ (len*n > 2 ^ 24):=by omega
 have s:¬ (len*n=0):=by
  have:=Nat.mul_pos a.1.2 a.1.1.1;omega
 have t:((⟨xs⟩:Array (Nat×Operand)).map fun (i,x)=>(i,(F fr ds).eval x)).toList=xs.map fun p=>(p.1,(F fr ds).eval p.2):=by simp
 have d:=j.fill (ds:=ds) ((Array.range (len*n)).map (z.cells[· % z.cells.size]!)).toList (by simp [k]);simp only [execOp,Instr.buildSlice,Sem.run_bind,run_underlying f,Result.andThen_ok,q,if_neg r,if_neg s,o,Sem.run_pure,t];have u:(⟨((Array.range (len*n)).map (z.cells[· % z.cells.size]!)).toList⟩:Array Value)=(Array.range (len*n)).map (z.cells[· % z.cells.size]!):=rfl;rw [u] at d;simp only [d];simp [newRow]
structure Jq (P:Program) (c:Code) (Q:Exit→Act→World→Prop) (n:Nat) (fr:List Value) (ds:List Deferred) (w:World):Prop where
 out:Code.rounds P c Q n (F fr ds) w
theorem dx {c:Code}(n:Nat) (h:Jq P c Q n fr ds w):Ee P (.loop c) Q fr ds w:=⟨wp_loop_rounds n h.out⟩
theorem gl {c:Code}{n:Nat}(h:Ee P c (Exit.then (fun a w=>∃ fr ds,a=F fr ds∧Jq P c Q n fr ds w) Q) fr ds w):Jq P c Q (n+1) fr ds w:=⟨by
 rw [rounds_succ];refine wp_mono h.out fun e a w b=>?_;cases e with
 | normal=>obtain ⟨fr,ds,rfl,h⟩:=b; exact h.out
 | exit id=>exact b
 | goto l=>exact b
 | ret=>exact b
 | panic d=>exact b
 | outgrown=>exact b⟩
theorem Wm {c:Code}{n:Nat}(h:Jq P c Q n fr ds w):Exit.then (fun a w=>∃ fr ds,a=F fr ds∧Jq P c Q n fr ds w) Q .normal (F fr ds) w:=⟨_,_,rfl,h⟩
theorem WA {f:Operand}{xs:List Operand}{tys:Array TypeId}{k:FuncId}{first cap vs:List Value}{R:Value→World→Prop}(b:wb P k) (c:db fr f (.func (.func k) ⟨first⟩ ⟨cap⟩)) (d:uk fr xs vs)
  (hc:nb P k (first++vs++cap) w R) (h:∀ v w',R v w'→Ng fr dst v fun U=>K U ds w'):Ed P (Oper.mk dst (.call { callee:=.value f,args:=⟨xs⟩,argTypes:=tys }) ty pos after g) fr ds w K Q:=by
 refine Ft (args:=first++vs++cap) ?_ hc h;have i:=c ds;have j:=d ds;have a:=b.out ⟨first++vs++cap⟩ w;have e:(⟨first⟩:Array Value)++(⟨vs⟩:Array Value)++(⟨cap⟩:Array Value)=⟨first++vs++cap⟩:=by
  apply Array.ext';simp
 simp only [List.append_assoc] at a e ⊢;simp [execOp,resolve,i,Deferred.ofValue,invoke,j];first
  | exact a
  | (simpa using a)
end
end Go.bc
namespace Go.Xc
open Go.bc Go.RowKit
section
variable {P:Program}{Q:Exit→Act→World→Prop}{K:List Value→List Deferred→World→Prop}{fr U:List Value}{ds:List Deferred}{w:World}
variable {dst:Option Tmp}{ty:TypeId}{pos:String}{after:Array Edge}{g:Option (Nat×Bool)}
variable {w0:World}{rs rs':List jb}{μ I:M}
variable {T:TypeId}{d:TypeDesc}{zf:Bool}{td:List Value}{n m:Nat}
def okV (R:Value→World→Prop):Ending→World→Prop
 | .returned v,w=>R v w
 | _,_=>False
def Oo (P:Program) (fn:Func) (R:Value→World→Prop):Exit→Act→World→Prop
 | .panic _,_,_=>False
 | e,a,w=>bodyPostD P fn (okV R) e a w
theorem gq {f:FuncId}{fn:Func}{c:Code}{args frm:List Value}{R:Value→World→Prop}(d:P.funcs[f]?=some fn) (g:fn.body=some c)
  (i:args++List.replicate (fn.ntmps - args.length) undef=frm) (h:Ee P c (Oo P fn R) frm [] w):nb P f args w R:=by
 refine ⟨Calls.mono (calls_of_wp_defers (R:=okV R) d g ?_) fun e w he=>by cases e<;>exact he⟩;subst i;have Ya:(⟨args⟩:Array Value)++Array.replicate (fn.ntmps - args.length) undef=⟨args++List.replicate (fn.ntmps - args.length) undef⟩:=by
  apply Array.ext';simp
 have h:=wp_mono h.out (Q':=bodyPostD P fn (okV R)) fun e a w b=>by
  cases e<;>first | exact b | exact (False.elim b)
 simpa [F,Ya] using h
structure Kt (P:Program) (f:FuncId) (args:List Value) (w:World) (R:Value→World→Prop):Prop where
 out:∀ u,CallsD P f ⟨args⟩ u w fun e a w'=>a=u∧okV R e w'
theorem XA {f:FuncId}{fn:Func}{c:Code}{args frm:List Value}{R:Value→World→Prop}(d:P.funcs[f]?=some fn) (g:fn.body=some c)
  (j:args++List.replicate (fn.ntmps - args.length) undef=frm) (h:Ee P c (Vm P fn R) frm [] w):Kt P f args w R:=by
 refine ⟨fun u=>callsD_of_wp d g ?_⟩;subst j;have Ya:(⟨args⟩:Array Value)++Array.replicate (fn.ntmps - args.length) undef=⟨args++List.replicate (fn.ntmps - args.length) undef⟩:=by
  apply Array.ext';simp
 have h:=wp_mono h.out (Q':=bodyPost P fn (okV R)) fun e a w b=>by
  cases e with
  | normal=>exact b
  | ret=>exact b
  | panic k=>exact b
  | exit i=>exact b
  | goto l=>exact b
  | outgrown=>exact b
 simpa [F,Ya] using h
theorem Lt {f:Operand}{xs:List Operand}{tys:Array TypeId}{k:FuncId}{cap vs:List Value}(a:db fr f (.func (.func k) #[] ⟨cap⟩)) (b:uk fr xs vs)
  (c:Ze fr dst undef U) (h:K U (⟨.fn (.func k) ⟨cap⟩,⟨vs⟩⟩::ds) w):Ed P (Oper.mk dst (.defer { callee:=.value f,args:=⟨xs⟩,argTypes:=tys }) ty pos after g) fr ds w K Q:=by
 constructor;intro l d;have e:=a ds;have i:=b ds;have j:(execOp (F fr ds).eval (Oper.mk dst (.defer { callee:=.value f,args:=⟨xs⟩,argTypes:=tys }) ty pos after g)).run P w=.ok (.defer ⟨.fn (.func k) ⟨cap⟩,⟨vs⟩⟩) w:=by
  simp [execOp,resolve,e,Deferred.ofValue,i]
 unfold Oper.wp;rw [j];have:=d _ _ _ h;rw [← c _] at this;simpa [Oper.upon,F,Act.put] using this
theorem Vy {fn:Func}{R a:Value→World→Prop}{k:FuncId}{cap vs:List Value}(b:wb P k) (hc:Kt P k (vs++cap) w a) (h:∀ v w',a v w'→Oo P fn R .ret (F fr ds) w') :
  Oo P fn R .ret (F fr (⟨.fn (.func k) ⟨cap⟩,⟨vs⟩⟩::ds)) w:=by
 refine ⟨by simp,.func k,⟨cap⟩,k,⟨vs++cap⟩,rfl,?_,?_⟩
 ·have:=b.out ⟨vs++cap⟩ w;simp [invoke,this]
 ·refine (hc.out .returning).mono fun e d w' he=>?_;obtain ⟨rfl,he⟩:=he;cases e with
  | returned v=>exact h v w' he
  | panicked c=>exact he.elim
  | outgrown=>exact he.elim
theorem Po {fn:Func}{R:Value→World→Prop}{a:List ResultVar}{vs:List Value}(b:fn.results=⟨a⟩) (Nb:Bb P fr w a vs) (h:R (Xo vs) w):Oo P fn R .ret (F fr []) w :=
 ⟨_,Fz b Nb,h⟩
def vc (ms:List (Nat×List MapEntry×Nat)):List jb:=(ms.map fun m=>.map m.1 m.2.1 m.2.2).reverse
def Ad (ms:List (Nat×List MapEntry×Nat)):List Value:=ms.map fun m=>.map (some m.1)
variable {κ β:Type}[DecidableEq κ] [lb κ] [sh β]
def ve (μ:M):List (Nat×List MapEntry×Nat)→List (List (κ×β))→Prop
 | [],a=>a=[]
 | m::ms,a=>∃ x t,a=x::t∧Ue μ m.2.1 m.2.2 x∧ve μ ms t
theorem ve.up (l:da μ I):∀ {ms:List (Nat×List MapEntry×Nat)}{a:List (List (κ×β))},ve μ ms a→ve I ms a
 | [],a,h=>by rw [ve] at h ⊢; exact h
 | m::ms,a,h=>by
  rw [ve] at h ⊢;obtain ⟨x,t,b,c,d⟩:=h;exact ⟨x,t,b,c.up l,ve.up l d⟩
theorem ve.get:∀ {ms:List (Nat×List MapEntry×Nat)}{d:List (List (κ×β))}{i:Nat}{x:List (κ×β)},ve μ ms d→d[i]?=some x→∃ b es c,ms[i]?=some (b,es,c)∧Ue μ es c x
 | [],d,i,x,h,a=>by rw [ve] at h; subst h; simp at a
 | m::ms,d,i,x,h,a=>by
  rw [ve] at h;obtain ⟨y,t,rfl,e,f⟩:=h;cases i with
  | zero=>simp at a; subst a; exact ⟨m.1,m.2.1,m.2.2,rfl,e⟩
  | succ i=>simp at a; simpa using ve.get f a
theorem ve.set:∀ {ms:List (Nat×List MapEntry×Nat)}{a:List (List (κ×β))}{i:Nat}{e:Nat×List MapEntry×Nat}{x:List (κ×β)},ve μ ms a→Ue μ e.2.1 e.2.2 x→ve μ (ms.set i e) (a.set i x)
 | [],a,i,e,x,h,b=>by rw [ve] at h; subst h; simp [ve]
 | m::ms,a,i,e,x,h,b=>by
  rw [ve] at h;obtain ⟨y,t,rfl,d,c⟩:=h;cases i with
  | zero=>exact ⟨x,t,rfl,b,c⟩
  | succ i=>exact ⟨y,_,rfl,d,ve.set c b⟩
theorem ve.push:∀ {ms:List (Nat×List MapEntry×Nat)}{a:List (List (κ×β))}{e:Nat×List MapEntry×Nat}{x:List (κ×β)},ve μ ms a→Ue μ e.2.1 e.2.2 x→ve μ (ms++[e]) (a++[x])
 | [],a,e,x,h,b=>by rw [ve] at h; subst h; exact ⟨x,[],rfl,b,rfl⟩
 | m::ms,a,e,x,h,b=>by
  rw [ve] at h;obtain ⟨y,t,rfl,c,d⟩:=h;exact ⟨y,_,rfl,c,ve.push d b⟩
theorem ve.take:∀ {ms:List (Nat×List MapEntry×Nat)}{a:List (List (κ×β))}(j:Nat),ve μ ms a→ve μ (ms.take j) (a.take j)
 | [],a,j,h=>by rw [ve] at h; subst h; simp [ve]
 | m::ms,a,j,h=>by
  rw [ve] at h;obtain ⟨y,t,rfl,b,c⟩:=h;cases j with
  | zero=>simp [ve]
  | succ j=>exact ⟨y,_,rfl,b,ve.take j c⟩
theorem GC (ms:List (Nat×List MapEntry×Nat)) (e:Nat×List MapEntry×Nat):vc (ms++[e])=.map e.1 e.2.1 e.2.2::vc ms:=by simp [vc]
theorem UC {ms:List (Nat×List MapEntry×Nat)}{i b c a:Nat}{es d:List MapEntry}(h:ms[i]?=some (b,es,c)):Ad (ms.set i (b,d,a))=Ad ms:=by
 unfold Ad;refine List.ext_getElem? fun j=>?_;rw [List.getElem?_map,List.getElem?_map,List.getElem?_set];split
 ·rename_i e;subst e;have f:=(List.getElem?_eq_some_iff.1 h).1;rw [if_pos f,h];rfl
 ·rfl
theorem VC {ms:List (Nat×List MapEntry×Nat)}{i b c:Nat}{es:List MapEntry}(h:ms[i]?=some (b,es,c)):jb.map b es c ∈ vc ms:=by
 unfold vc;rw [List.mem_reverse,List.mem_map];exact ⟨(b,es,c),List.mem_of_getElem? h,rfl⟩
theorem _root_.Go.bc.Sep.UB {pre:List jb}{ms:List (Nat×List MapEntry×Nat)}{i b c:Nat}{es:List MapEntry}(a:ka μ w0 w (pre++(vc ms++rs))) (h:ms[i]?=some (b,es,c)):w.heap[b]?=some (.map ⟨es⟩ c):=
 a.all (.map b es c) (by simp [VC h])
theorem Row.mapElem {v:Value}{ms:List (Nat×List MapEntry×Nat)}{a:List (List (κ×β))}{i:Int}{x:List (κ×β)}(h:Row w v T 1 a.length (Ad ms)) (hm:ve μ ms a) (g:at_ a i=some x) :
  ∃ b o gk es c,Ei v 1 i b o∧(∀ w T,Row w v T 1 a.length (Ad ms)→ui w b o [.map (some gk)])∧ms[i.toNat]?=some (gk,es,c)∧Ue μ es c x:=by
 obtain ⟨f,k,l⟩:=oq g;obtain ⟨gk,es,c,e,m⟩:=hm.get l;obtain ⟨b,o,q,rfl,hc⟩:=h.Xk (by omega);refine ⟨b,o+i.toNat,gk,es,c,⟨o,_,_,rfl,f,k,by simp⟩,fun r s n j u d=>?_,e,m⟩;obtain ⟨kg,t,y,Nb,p⟩:=n.Xk (by omega);simp at Nb;obtain ⟨⟨rfl,rfl⟩,rfl⟩:=Nb;cases j with
 | succ j=>simp at d
 | zero =>
  simp at d;subst d;have:(Ad ms)[i.toNat]?=some (.map (some gk)):=by unfold Ad;rw [List.getElem?_map,e];rfl
  exact p _ _ this
theorem YA {x y z:Operand}{xe aa:TypeId}{v:Value}{pre:List jb}{ms:List (Nat×List MapEntry×Nat)}{b c i:Nat}{es:List MapEntry}{kk:κ}{q:List (κ×β)}{xx:β}{d:List (List (κ×β))}(o:P.underlying T=some (.map xe aa)) (p:P.underlying xe=some (lb.fk (κ:=κ))) (r:db fr x (.map (some b))) (s:db fr y (lb.key kk)) (t:db fr z v) (Nb:sh.Hi μ v xx)
  (u:ka μ w0 w (pre++(vc ms++rs))) (f:ms[i]?=some (b,es,c)) (he:Ue μ es c q) (hm:ve μ ms d)
  (pb:Ze fr dst undef U) (h:∀ k w',ve μ k (d.set i (pe q kk xx))→Ad ms=Ad k→d.length=(d.set i (pe q kk xx)).length→ka μ w0 w' (pre++(vc k++rs))→K U ds w'):Ed P (Oper.mk dst (.mapUpdate T x y z) ty pos after g) fr ds w K Q:=by
 have B:=(List.getElem?_eq_some_iff.1 f).1;have A:(pre++(vc ms++rs))[pre.length+(ms.length - 1 - i)]?=some (.map b es c):=by
  rw [List.getElem?_append_right (by omega),Nat.add_sub_cancel_left,List.getElem?_append_left (by simp [vc];omega)];unfold vc;rw [List.getElem?_reverse (by simp;omega),List.length_map,show ms.length - 1 - (ms.length - 1 - i)=i by omega,List.getElem?_map,f];rfl
 refine xB o p r s (lb.xe kk) t u A he.Ef.keys pb fun w' rs' l m=>h _ w' (hm.set (e:=(b,putAt es c (lb.key kk) v,Jl es c (lb.key kk))) (he.put kk Nb)) (UC f).symm (by simp) ?_;unfold sc at l;subst l;have e:(pre++(vc ms++rs)).set (pre.length+(ms.length - 1 - i)) (.map b (putAt es c (lb.key kk) v) (Jl es c (lb.key kk)))=pre++(vc (ms.set i (b,putAt es c (lb.key kk) v,Jl es c (lb.key kk)))++rs):=by
  rw [List.set_append_right _ _ (by omega),Nat.add_sub_cancel_left,List.set_append_left _ _ (by simp [vc];omega)];congr 2;unfold vc;rw [List.map_set];refine List.ext_getElem? fun j=>?_;rcases Nat.lt_or_ge j ms.length with a | a
  ·rw [List.getElem?_set,List.getElem?_reverse (by simpa using a),List.getElem?_reverse (by simpa using a)];simp only [List.length_map,List.length_reverse,List.length_set,List.getElem?_set];by_cases n:ms.length - 1 - i=j
   ·rw [if_pos n,if_pos (by omega),if_pos (by omega),if_pos (by omega)]
   ·rw [if_neg n,if_neg (by omega)]
  ·rw [List.getElem?_eq_none (by simpa using a),List.getElem?_eq_none (by simpa using a)]
 rw [e] at m;exact m
theorem zB {t:TypeId}{s x:Operand}{v:Value}{bytes k b gk c:Nat}{ms:List (Nat×List MapEntry×Nat)}{d e:List (List (κ×β))}(f:P.underlying t=some (.slice T)) (i:kc P T zf td 1 bytes) (j:td.length=1)
  (l:db fr s v) (m:db fr x (.slice (some ⟨b,0,none⟩) 1 c)) (n:ka μ w0 w rs) (o:oc rs k (.row v T 1 d.length (Ad ms))) (p:ui w b 0 [.map (some gk)]) (q:app d [([]:List (κ×β))]=some e) (r:bytes≤4096)
  (h:∀ a w' rs',sc rs k (.row a T 1 e.length (Ad ms++[.map (some gk)])) rs'→ka μ w0 w' rs'→Ng fr dst a fun U=>K U ds w') :
  Ed P (Oper.mk dst (.call { callee:=.builtin .append,args:=#[s,x],argTypes:=#[t,t] }) ty pos after g) fr ds w K Q:=by
 obtain ⟨u,y⟩:=Jt q;refine qn f i (by simp [j]) l m n o p rfl rfl ⟨y,r⟩ fun a w' rs' z=>h a w' rs' (by rw [u];exact z)
theorem _root_.Go.bc.Sep.VB {pre:List jb}{ms:List (Nat×List MapEntry×Nat)}{b c:Nat}{es:List MapEntry}(a:ka μ w0 w (pre++(.map b es c::(vc ms++rs)))):ka μ w0 w (pre++(vc (ms++[(b,es,c)])++rs)):=by
 rw [GC];exact a
theorem wz (ms:List (Nat×List MapEntry×Nat)) (b c:Nat) (es:List MapEntry):Ad ms++[.map (some b)]=Ad (ms++[(b,es,c)]):=by simp [Ad]
theorem _root_.Go.bc.Sep.tu {pre:List jb}{ms:List (Nat×List MapEntry×Nat)}{j:Nat}(a:ka μ w0 w (pre++(vc ms++rs))):ka μ w0 w (pre++(vc (ms.take j)++rs)):=by
 have c:(pre++(vc (ms.take j)++rs)).Sublist (pre++(vc ms++rs)):=by
  refine (List.Sublist.refl pre).append (List.Sublist.append ?_ (List.Sublist.refl rs));unfold vc;exact ((List.take_sublist j ms).map _).reverse
 refine ⟨a.keeps,fun r e=>a.all r (c.subset e),(c.filterMap _).nodup a.Xh,fun b f=>a.new b ((c.filterMap _).subset f),?_⟩;refine a.si.mono fun k _ d=>⟨d.1,fun hm=>d.2 ((c.filterMap jb.block).subset hm)⟩
theorem Row.WB {v:Value}{sz:Nat}{xs:List Value}{j:Int}(h:Row w v T sz n xs) (d:0≤j) (q:j≤n) :
  ∃ a,dn v sz none (some j) a∧a.ownBlock=v.ownBlock∧∀ w T,Row w v T sz n xs→Row w a T sz j.toNat (xs.take (j.toNat*sz)):=by
 have b:∀ w T,Row w v T sz n xs→(xs.take (j.toNat*sz)).length=j.toNat*sz:=fun w T h=>by
  rw [List.length_take,h.1];exact Nat.min_eq_left (Nat.mul_le_mul_right _ (by omega))
 rcases h.2 with ⟨rfl,rfl⟩ | ⟨g,o,cap,cur,rfl,r,s,t,u,x⟩
 ·have:j=0:=by omega
  subst this;exact ⟨.slice none 0 0,⟨none,0,0,rfl,by simp,by simp,by simp,by simp⟩,rfl,fun w T h=>⟨b w T h,.inl ⟨rfl,rfl⟩⟩⟩
 ·refine ⟨.slice (some ⟨g,o,none⟩) j.toNat cap,⟨_,_,_,rfl,by simp,by simpa using d,by simp;omega,?_⟩,rfl,fun e f c=>⟨b e f c,.inr ?_⟩⟩
  ·simp [Tj]
  ·rcases c.2 with ⟨Nb,_⟩ | ⟨y,z,A,i,Nb,k,k1,l,m,p⟩
   ·simp at Nb
   ·simp at Nb;obtain ⟨⟨rfl,rfl⟩,rfl⟩:=Nb;exact ⟨g,o,cap,i,rfl,k,by omega,l,m,by rw [← p,List.take_take,Nat.min_eq_left (Nat.mul_le_mul_right _ (by omega))]⟩
theorem Row.cutFrom {v:Value}{sz:Nat}{xs:List Value}{i:Int}(h:Row w v T sz n xs) (f:0≤i) (j:i≤n) :
  ∃ a,dn v sz (some i) none a∧a.ownBlock=v.ownBlock∧∀ w T,Row w v T sz n xs→Row w a T sz (n - i.toNat) (xs.drop (i.toNat*sz)):=by
 have c:∀ w T,Row w v T sz n xs→(xs.drop (i.toNat*sz)).length=(n - i.toNat)*sz:=fun w T h=>by
  rw [List.length_drop,h.1,Nat.sub_mul]
 rcases h.2 with ⟨rfl,rfl⟩ | ⟨g,o,cap,cur,rfl,p,q,r,s,t⟩
 ·have:i=0:=by omega
  subst this;exact ⟨.slice none 0 0,⟨none,0,0,rfl,by simp,by simp,by simp,by simp⟩,rfl,fun w T h=>⟨c w T h,.inl ⟨rfl,by simp⟩⟩⟩
 ·refine ⟨_,⟨_,_,_,rfl,by simpa using f,by simpa using j,by simp;omega,rfl⟩,by simp only [Option.getD_some];split<;>simp [Value.ownBlock,Tj],fun k l b=>⟨c k l b,.inr ?_⟩⟩;rcases b.2 with ⟨Nb,_⟩ | ⟨u,x,y,d,Nb,e,k1,z,A,m⟩
  ·simp at Nb
  ·simp at Nb;obtain ⟨⟨rfl,rfl⟩,rfl⟩:=Nb;have hmul:i.toNat*sz+(cap - i.toNat)*sz=cap*sz:=by rw [← Nat.add_mul];congr 1;omega
   by_cases hc:cap=i.toNat
   ·refine ⟨g,o,cap - i.toNat,d,by simp [hc],e,by omega,by omega,by omega,?_⟩;rw [show n - i.toNat=0 by omega,Nat.zero_mul,List.take_zero,List.drop_eq_nil_of_le (by rw [b.1];exact Nat.mul_le_mul_right _ (by omega))]
   ·refine ⟨g,o+i.toNat*sz,cap - i.toNat,d,by simp [hc,Tj],e,by omega,by omega,by omega,?_⟩;rw [← m,← List.drop_drop,List.drop_take,Nat.sub_mul]
theorem na.drop {α:Type}[Va α]:∀ {l:List α}{cells:List Value}(i:Nat),na μ cells l→na μ (cells.drop (i*Va.sz α)) (l.drop i)
 | [],cells,i,h=>by rw [na] at h; subst h; simp [na]
 | x::l,cells,0,h=>by simpa using h
 | x::l,cells,i+1,h=>by
  rw [na] at h;obtain ⟨cs,t,rfl,a,b⟩:=h;have e:(i+1)*Va.sz α=cs.length+i*Va.sz α:=by rw [Nat.add_mul,Va.fh a];omega
  rw [e,← List.drop_drop];simpa using na.drop i b
theorem Row.hC {α:Type}[Va α]{v:Value}{cells:List Value}{l b:List α}{i:Int}(h:Row w v T (Va.sz α) l.length cells) (hm:na μ cells l) (g:cut l i l.length=some b) :
  ∃ a c,dn v (Va.sz α) (some i) none a∧a.ownBlock=v.ownBlock∧(∀ w T,Row w v T (Va.sz α) l.length cells→Row w a T (Va.sz α) b.length c)∧na μ c b:=by
 obtain ⟨⟨d,e,m⟩,rfl⟩:=Fo g;obtain ⟨a,Ya,f,j⟩:=Row.cutFrom h d e;refine ⟨a,cells.drop (i.toNat*Va.sz α),Ya,f,fun w T k=>?_,by simpa using hm.drop i.toNat⟩;have:=j w T k;simpa using this
theorem Row.iC {v:Value}{ms:List (Nat×List MapEntry×Nat)}{a c:List (List (κ×β))}{j:Int}(h:Row w v T 1 a.length (Ad ms)) (hm:ve μ ms a) (g:cut a 0 j=some c) :
  ∃ b d,dn v 1 none (some j) b∧b.ownBlock=v.ownBlock∧(∀ w T,Row w v T 1 a.length (Ad ms)→Row w b T 1 c.length (Ad d))∧ve μ d c∧ms.take j.toNat=d:=by
 obtain ⟨⟨m,e,f⟩,rfl⟩:=Fo g;obtain ⟨b,Ya,i,k⟩:=Row.WB h e f;refine ⟨b,ms.take j.toNat,Ya,i,fun w T l=>?_,by simpa using hm.take j.toNat,rfl⟩;have:=k w T l;have el:((a.take j.toNat).drop (0:Int).toNat).length=j.toNat:=by simp;omega
 rw [el];have ua:Ad (ms.take j.toNat)=(Ad ms).take (j.toNat*1):=by simp [Ad]
 rw [ua];exact this
theorem _root_.Go.bc.Sep.perm {S Gd:Nat→Prop}{A:World→Prop}(h:Sep S Gd w0 w rs A) (a:rs.Perm rs'):Sep S Gd w0 w rs' A where
 keeps:=h.keeps
 all r d:=h.all r (a.mem_iff.2 d)
 Xh:=(a.filterMap _).nodup_iff.1 h.Xh
 new b e:=h.new b ((a.filterMap _).mem_iff.2 e)
 si:=h.si.mono fun k _ c=>⟨c.1,fun hm=>c.2 ((a.filterMap jb.block).mem_iff.2 hm)⟩
theorem _root_.Go.bc.Sep.vd {a p M R:List jb}(h:ka μ w0 w (a++(p++(M++R)))):ka μ w0 w (a++(M++(p++R))):=
 h.perm (List.Perm.append_left a (by
  rw [← List.append_assoc,← List.append_assoc];exact List.Perm.append_right R List.perm_append_comm))
theorem _root_.Go.bc.Sep.xn {k:Nat}{v c:Value}{sz e:Nat}{xs f:List Value}{S Gd:Nat→Prop}{A:World→Prop}(a:Sep S Gd w0 w rs A) (g:oc rs k (.row v T sz n xs)) (m:c.ownBlock=v.ownBlock) (o:∀ w T,Row w v T sz n xs→Row w c T sz e f) (j:sc rs k (.row c T sz e f) rs'):Sep S Gd w0 w rs' A:=by
 have h:Row w v T sz n xs:=a.get g;cases Nb:v.ownBlock with
 | some b=>exact a.put (b:=b) (r:=.row v T sz n xs) (r':=.row c T sz e f) g Nb (m.trans Nb) j (o _ _ h) (Th.refl _)
 | none =>
  unfold sc at j;subst j;have l:=Vz (r':=.row c T sz e f) g (show c.ownBlock=v.ownBlock from m);refine ⟨a.keeps,fun r p=>?_,by rw [l];exact a.Xh,by rw [l];exact a.new,by rw [l];exact a.si⟩;obtain ⟨i,d⟩:=List.mem_iff_getElem?.1 p;rw [List.getElem?_set] at d;split at d
  ·split at d
   ·cases d;exact o _ _ h
   ·cases d
  ·exact a.all r (List.mem_of_getElem? d)
end
end Go.Xc
namespace Go.Xc
open Go.bc Go.RowKit
theorem Kb {P : Program} {f : FuncId} {fn : Func} (a : P.funcs[f]? = some fn) (b : fn.body.isSome = true := by rfl) (c : (fn.name == "runtime.NumGoroutine") = false := by kernel_rfl) : wb P f := uF a b c
theorem Od {P : Program}{T : TypeId}{d : TypeDesc}{zf : Bool}{z : Value}{td : List Value}{n m : Nat}(hu : P.underlying T = some d) (a : su d = zf := by rfl) (h : (P.info? T).map (fun i => (i.zero, i.size, i.bytes)) = some (some z, n, m):= by kernel_rfl) (b : z.cells = ⟨td⟩ := by rfl) : kc P T zf td n m := HH hu a h b
end Go.Xc
namespace Go.Xc
open Go.bc Go.RowKit
theorem xi {v:Value}{l:List Value}(h:ee v=true) (k:l.all ee=true):(v::l).all ee=true:=by simp [h,k]
theorem Xm:([]:List Value).all ee=true:=rfl
theorem Hz (A vs:List Value) (o q N:Nat) (c:q+vs.length≤N) (d:o+N≤A.length):((A.take (o+q)++vs++A.drop (o+q+vs.length)).drop o).take N=((A.drop o).take N).take q++vs++((A.drop o).take N).drop (q+vs.length):=by
 apply List.ext_getElem?;intro j;simp only [List.getElem?_take,List.getElem?_drop,List.getElem?_append,List.length_append,List.length_take,List.length_drop];have Ya:min (o+q) A.length=o+q:=by omega
 have a:min q (min N (A.length - o))=q:=by omega
 rw [Ya,a];by_cases b:j<q
 ·have c2:j<N:=by omega
  have c3:j<q+vs.length:=by omega
  simp [b,c2,c3,show o+j<o+q by omega,show o+j<o+q+vs.length by omega]
 ·by_cases c2:j<q+vs.length
  ·rw [if_pos (by omega),if_pos (by omega),if_neg (by omega),if_pos (by omega),if_neg (by omega)];congr 1;omega
  ·by_cases c3:j<N
   ·rw [if_pos c3,if_neg (by omega),if_neg (by omega),if_pos (by omega)];congr 1;omega
   ·rw [if_neg c3,if_neg (by omega),if_neg (by omega)]
section
variable {P:Program}{Q:Exit→Act→World→Prop}{K:List Value→List Deferred→World→Prop}{fr U:List Value}{ds:List Deferred}{w:World}
variable {dst:Option Tmp}{ty:TypeId}{pos:String}{after:Array Edge}{g:Option (Nat×Bool)}
variable {w0:World}{rs rs':List jb}{μ I:M}
variable {T:TypeId}{d:TypeDesc}{zf:Bool}{td:List Value}{n m:Nat}
theorem lk {x y:Operand}{b o off sz len k:Nat}{i:Int}{v e:Value}{vs xs f:List Value}{a:TypeId}{S Gd:Nat→Prop}{A:World→Prop}(s:kc P T zf td n m) (t:db fr x (.pointer (some ⟨b,o+off,none⟩))) (u:db fr y e) (Nb:e.cells=⟨vs⟩) (z:vs.length=n) (B:vs.all ee=true)
  (j:Sep S Gd w0 w rs A) (l:oc rs k (.row v a sz len xs)) (he:Ei v sz i b o) (Y:off+vs.length≤sz) (C:xs.take (i.toNat*sz+off)++vs++xs.drop (i.toNat*sz+off+vs.length)=f) (D:sc rs k (.row v a sz len f) rs')
  (pb:Ze fr dst undef U) (h:∀ w',Sep S Gd w0 w' rs' A→K U ds w'):Ed P (Oper.mk dst (.store T x y) ty pos after g) fr ds w K Q:=by
 have F:Row w v a sz len xs:=j.get l;obtain ⟨c,Z,c0,rfl,gc,hc,rfl⟩:=he.out;obtain ⟨hlen,d⟩:=F;rcases d with ⟨d,-⟩ | ⟨lc,rc,cap,cur,d,G,p,H,fd,M⟩
 ·cases d
 ·cases d;have N:i.toNat<len:=by omega
  have hmul:(i.toNat+1)*sz≤len*sz:=Nat.mul_le_mul_right _ N;have id:len*sz≤c0*sz:=Nat.mul_le_mul_right _ p;have md:(i.toNat+1)*sz=i.toNat*sz+sz:=Nat.succ_mul ..;have q:Mi w b a cur.toList:=G;have hle:(c+i.toNat*sz+off)+0+vs.length≤(⟨cur.toList⟩:Array Value).size:=by simp;omega
  have r:=run_storeCells_at P b (c+i.toNat*sz+off) a vs 0 ⟨cur.toList⟩ w q hle fun v Nb=>jt (List.all_eq_true.1 B v Nb);have Ya:e.cells.toList=vs:=by rw [Nb]
  have R:¬ (e.cells.size≠n):=by rw [Nb];simpa using z
  have V:=s.sizeOf (w:=w);simp only [Nat.add_zero] at r;have W:Th (fun k=>k≠b) w (w.setRow b (cur.toList.take (c+i.toNat*sz+off)++vs++cur.toList.drop (c+i.toNat*sz+off+vs.length)).toArray):=⟨rfl,rfl,rfl,by simp [World.setRow],fun k rd X=>setRow_other w b k _ X⟩;refine Sy ?_ pb (h _ (j.put (b:=b) l rfl rfl D ?_ W))
  ·simp only [execOp,Instr.storeAt,t ds,u ds,Instr.sureAddr,storeVar,Sem.run_bind,V,Result.andThen_ok,if_neg R,Ya,r,Sem.run_pure]
  ·subst C;refine ⟨by simp [hlen];omega,.inr ⟨b,c,c0,_,rfl,setRow_heap w b ⟨cur.toList⟩ _ a (0,0) q,p,H,?_,?_⟩⟩
   ·simp;omega
   ·subst M;have:=Hz cur.toList vs c (i.toNat*sz+off) (len*sz) (by omega) (by simp;omega);rw [← Nat.add_assoc] at this;exact this
class HI (α β:Type) [Va α] [Va β] where
 code:α→List β
 set:α→List β→α
 pb:M→List Value→α→Prop
 up:∀ {μ I:M}{l:List Value}{x:α},da μ I→pb μ l x→pb I l x
 fh:∀ {μ:M}{l:List Value}{x:α},pb μ l x→l.length+1=Va.sz α
 wr:∀ {μ:M}{l:List Value}{x:α}{ys:List β}{a:Option Addr}{c:Nat},pb μ l x→Ca μ a c ys→Va.cs μ (l++[.slice a ys.length c]) (set x ys)
 st:∀ {μ:M}{l:List Value}{x:α}{ys:List β},pb μ l x→pb μ l (set x ys)
 sj:∀ {x:α},set x (code x)=x
 cs:∀ {x:α}{ys:List β},code (set x ys)=ys
variable {α β:Type}[Va α] [Va β] [HI α β]
end
end Go.Xc
namespace Go.bc
open Go.RowKit
section
variable {P:Program}{Q:Exit→Act→World→Prop}{ops:Array Oper}{fr U:List Value}{ds:List Deferred}{w:World}
end
end Go.bc
namespace Go.bc
open Go.RowKit
section
variable {P:Program}{Q:Exit→Act→World→Prop}{ops:Array Oper}{fr U:List Value}{ds:List Deferred}{w:World}
abbrev Mon:=List Nat×(World→Prop)
def Kh (i:Nat) (xc:List Mon):List Mon:=xc.filter fun m=>!m.1.contains i
def Ja:List Mon→World→Prop
 | [],_=>True
 | m::l,w=>m.2 w∧Ja l w
theorem Ja.mem {xc:List Mon}{w:World}:Ja xc w ↔ ∀ m ∈ xc,m.2 w:=by
 induction xc with
 | nil=>simp [Ja]
 | cons m l a=>simp [Ja,a]
theorem Ja.sub {xc Ns':List Mon}(h:Ja xc w) (a:∀ m ∈ Ns',m ∈ xc):Ja Ns' w:=Ja.mem.2 fun m hm=>Ja.mem.1 h m (a m hm)
theorem Mt {i:Nat}{xc:List Mon}:∀ m ∈ Kh i xc,m ∈ xc:=fun m hm=>(List.mem_filter.1 hm).1
theorem nt {i:Nat}{xc Ns':List Mon}(h:∀ m ∈ Ns',m ∈ xc):∀ m ∈ Kh i Ns',m ∈ Kh i xc:=fun m hm=>List.mem_filter.2 ⟨h m (List.mem_filter.1 hm).1,(List.mem_filter.1 hm).2⟩
def Og (P:Program) (ops:Array Oper) (Q:Exit→Act→World→Prop):List Mon→List Nat→Act→World→Prop
 | _,[],a,w=>Q .normal a w
 | xc,i::rest,a,w =>
  match ops[i]? with
  | none=>Og P ops Q (Kh i xc) rest a w
  | some o =>
   if Region.wanted o (yielded ops a.tmps) then o.wp P a w (fun a w=>Ja (Kh i xc) w∧Og P ops Q (Kh i xc) rest a w) Q∨(o.asks P a w∧LetsOut Q)
   else Og P ops Q (Kh i xc) rest (a.put o.dst undef) w
theorem Jx {o:Oper}{a:Act}{K c:Act→World→Prop}(h:o.wp P a w K Q) (b:∀ a w,K a w→c a w):o.wp P a w c Q:=by
 unfold Oper.wp at h ⊢;cases d:(execOp a.eval o).run P w with
 | halt e w'=>rw [d] at h; cases e <;> exact h
 | ok r w' =>
  rw [d] at h;cases r with
  | value x=>exact b _ _ h
  | skip=>exact b _ _ h
  | defer i=>exact b _ _ h
  | enter f args =>
   rw [Oper.upon_enter] at h ⊢;refine Calls.mono h fun e g he=>?_;cases e with
   | returned x=>exact b _ _ he
   | panicked j=>exact he
   | outgrown=>exact he
  | row r args =>
   rw [Oper.upon_row] at h ⊢;exact Rows.mono h fun x g he=>b _ _ he
  | _=>exact h
theorem Og.mono:∀ (b:List Nat){xc Ns':List Mon}{a:Act}{w:World},Og P ops Q xc b a w→(∀ m ∈ Ns',m ∈ xc)→Og P ops Q Ns' b a w
 | [],_,_,_,_,h,_=>h
 | i::b,xc,Ns',a,w,h,c=>by
  simp only [Og] at h ⊢;cases d:ops[i]? with
  | none=>rw [d] at h; exact Og.mono b h (nt c)
  | some o =>
   rw [d] at h;simp only at h ⊢;split
   ·rename_i hw;rw [if_pos hw] at h;rcases h with h | h
    ·exact .inl (Jx h fun a w ⟨e,f⟩=>⟨e.sub (nt c),Og.mono b f (nt c)⟩)
    ·exact .inr h
   ·rename_i hw;rw [if_neg hw] at h;exact Og.mono b h (nt c)
theorem Og.plain:∀ (b:List Nat){xc:List Mon}{a:Act}{w:World},Og P ops Q xc b a w→wpOps P ops Q b a w
 | [],_,_,_,h=>h
 | i::b,xc,a,w,h=>by
  simp only [Og] at h;simp only [wpOps];cases c:ops[i]? with
  | none=>rw [c] at h; exact Og.plain b h
  | some o =>
   rw [c] at h;simp only at h ⊢;split
   ·rename_i hw;rw [if_pos hw] at h;rcases h with h | h
    ·exact .inl (Jx h fun a w ⟨_,d⟩=>Og.plain b d)
    ·exact .inr h
   ·rename_i hw;rw [if_neg hw] at h;exact Og.plain b h
theorem Wy {N:World→Prop}{S:List Nat}{i d:Nat}(q:Uh Q d){o:Oper}{v:Value}(z:ops[i]?=some o) (pb:o.dst=some d){wt:Bool}(A:wt=false→v=undef) :
  ∀ (a b:List Nat) (fr:List Value) (ds:List Deferred) (w:World) (xc:List Mon),
   (∀ j ∈ a,j ∉ S∧match ops[j]? with
    | some p=>Lj p.op=true∧(reads ops p).contains d=false∧p.dst≠some d∧(∀ e,p.dst=some e→(reads ops o).contains e=false)
    | none=>True) →
   N w→Ja xc w→Lj o.op=true→Region.wanted o (yielded ops (F fr ds).tmps)=wt →
   (wt=true→∀ ds w,N w→(execOp (F fr ds).eval o).run P w=.ok (.value v) w) →
   Og P ops Q ((S,N)::xc) (a++b) (F (fr.set d v) ds) w→Og P ops Q xc (a++i::b) (F fr ds) w
 | [],b,fr,ds,w,xc,_,hw,s,t,c,u,h=>by
  simp only [List.nil_append] at h ⊢;have h:=Og.mono b h (Ns':=Kh i xc) fun m hm=>List.mem_cons_of_mem _ (Mt m hm);simp only [Og,z];cases wt with
  | true =>
   rw [if_pos c];left;unfold Oper.wp;rw [u rfl ds w hw,Oper.upon_value,pb];rw [show (F fr ds).put (some d) v=F (fr.set d v) ds from ia rfl ds];exact ⟨s.sub Mt,h⟩
  | false =>
   rw [if_neg (by rw [c];simp),pb,← A rfl];rw [show (F fr ds).put (some d) v=F (fr.set d v) ds from ia rfl ds];exact h
 | j::a,b,fr,ds,w,xc,K,hw,s,t,c,u,h=>by
  obtain ⟨Y,B⟩:=K j (by simp);have M:∀ k ∈ a,_:=fun k l=>K k (by simp [l]);have Z:Kh j ((S,N)::xc)=(S,N)::Kh j xc:=by simp [Kh,Y]
  simp only [List.cons_append,Og,Z] at h ⊢;cases R:ops[j]? with
  | none =>
   rw [R] at h;simp only at h ⊢;exact Wy q z pb A a b fr ds w _ M hw (s.sub Mt) t c u h
  | some p =>
   rw [R] at h B;simp only at h B ⊢;obtain ⟨T,C,gc,V⟩:=B;rw [yv (fr:=fr) (v:=v) (ds:=ds) (ds':=ds) C] at h;have key:∀ (x:Value) (w':World) (ds':List Deferred),N w'→Ja (Kh j xc) w'→Og P ops Q ((S,N)::Kh j xc) (a++b) ((F (fr.set d v) ds').put p.dst x) w'→Og P ops Q (Kh j xc) (a++i::b) ((F fr ds').put p.dst x) w':=by
    intro x w' ds' hc lc l;obtain ⟨g,g1,g2,g3⟩:=put_eq fr ds' p.dst x;have rc:=wanted_put (ops:=ops) (o:=o) (p:=p) (ds':=ds') (fun y D=>g3 fr y ds' ds' D) V;rw [g1] at l ⊢;rw [g2 _ _ _ gc] at l;refine Wy q z pb A a b (g fr) ds' w' _ M hc lc t (rc.trans c) (fun fd n id md=>?_) l;rw [show execOp (F (g fr) n).eval o=execOp (F fr n).eval o from execOp_congr o t fun y D=>g3 fr y n n fun e he rd=>by
     exact kt (V e he) y D rd]
    exact u fd n id md
   by_cases W:Region.wanted p (yielded ops (F fr ds).tmps)=true
   ·rw [if_pos W] at h ⊢;rcases h with h | h
    ·left;unfold Oper.wp at h ⊢;rw [po (ds':=ds) T C] at h;cases X:(execOp (F fr ds).eval p).run P w with
     | halt e w' =>
      rw [X] at h;cases e<;>first | exact h | exact q _ _ _ _ _ h
     | ok r w' =>
      rw [X] at h;cases r with
      | value x=>exact ⟨h.1.2,key x w' ds h.1.1 h.1.2 h.2⟩
      | skip=>exact ⟨h.1.2,key undef w' ds h.1.1 h.1.2 h.2⟩
      | defer wd=>exact ⟨h.1.2,key undef w' (wd::ds) h.1.1 h.1.2 h.2⟩
      | enter f args =>
       rw [Oper.upon_enter] at h ⊢;refine Calls.mono h fun e G he=>?_;cases e with
       | returned x=>exact ⟨he.1.2,key x G ds he.1.1 he.1.2 he.2⟩
       | panicked Fd=>exact q _ _ _ _ _ he
       | outgrown=>exact he
      | row r args =>
       rw [Oper.upon_row] at h ⊢;exact Rows.mono h fun x G he=>⟨he.1.2,key x G ds he.1.1 he.1.2 he.2⟩
      | _=>exact h
    ·right;refine ⟨?_,h.2⟩;have H:=h.1;unfold Oper.asks at H ⊢;rw [po (ds':=ds) T C] at H;exact H
   ·rw [if_neg W] at h ⊢;exact key undef w ds hw (s.sub Mt) h
structure Zf (P:Program) (ops:Array Oper) (Q:Exit→Act→World→Prop) (xc:List Mon) (R:List Nat) (fr:List Value) (ds:List Deferred) (w:World):Prop where
 out:Ja xc w→∀ a,Xj ops R a→Og P ops Q xc a (F fr ds) w
theorem Yc {R:List Nat}(h:Zf P ops Q [] R fr ds w):ni P ops Q R fr ds w:=⟨fun a b=>Og.plain a (h.out trivial a b)⟩
theorem Ic {xc:List Mon}(h:Q .normal (F fr ds) w):Zf P ops Q xc [] fr ds w:=⟨fun _ b a=>by
 cases a with
 | z=>exact h
 | s h _=>exact absurd (ql h) (by simp)⟩
def Kj (ops:Array Oper) (S R:List Nat) (i:Nat):Bool :=
 match ops[i]? with
 | some o=>match o.dst with
  | some d=>Lj o.op && R.all fun j=>S.contains j || (match ops[j]? with
    | some p=>Lj p.op && !(reads ops p).contains d && p.dst != some d && (match p.dst with | some e=>!(reads ops o).contains e | none=>true)
    | none=>true)
  | _=>false
 | none=>false
theorem so {xc:List Mon}{R R':List Nat}{i:Nat}(S:List Nat) (N:World→Prop){wt:Bool}{dst:Tmp}{op:Op}{ty:TypeId}{pos:String}{after:Array Edge}{l:Option (Nat×Bool)}{v:Value}(C:Uh Q dst) (m:(decide R.Nodup && enabled ops R i && waits ops R S i && Kj ops S R i && S.contains i)=true) (D:R.erase i=R') (n:ops[i]?=some ⟨some dst,op,ty,pos,after,l⟩)
  (G:Region.wanted ⟨some dst,op,ty,pos,after,l⟩ (yielded ops (F fr ds).tmps)=wt) (H:wt=false→v=undef) (o:N w)
  (Nb:wt=true→∀ ds w',N w'→(execOp (F fr ds).eval ⟨some dst,op,ty,pos,after,l⟩).run P w'=.ok (.value v) w') (f:sc fr dst v U) (h:Zf P ops Q ((S,N)::xc) R' U ds w):Zf P ops Q xc R fr ds w:=⟨fun q Y r=>by
 simp only [Bool.and_eq_true,decide_eq_true_eq] at m;obtain ⟨⟨⟨⟨s,t⟩,u⟩,g⟩,-⟩:=m;obtain ⟨x,y,rfl,K,z⟩:=r.split s (ql t) t;have A:=Xj.later (S:=S) r s (fun j d=>by
  unfold waits at u;have:=List.all_eq_true.1 u j d;simp only [Bool.or_eq_true,beq_iff_eq,List.any_eq_true,Bool.and_eq_true,List.contains_iff_mem] at this;rcases this with h | ⟨k,k1,M,T⟩
  ·exact .inl h
  ·exact .inr ⟨k,k1,M,T⟩) x y rfl (fun hm=>(z i hm).2.1 rfl)
 unfold Kj at g;simp only [n,Bool.and_eq_true,List.all_eq_true,Bool.or_eq_true,List.contains_iff_mem] at g;unfold sc at f;subst f;subst D;refine Wy C n rfl H (N:=N) (S:=S) (v:=v) x y fr ds w xc (fun j d=>⟨A j d,?_⟩) o q g.1 G Nb (h.out ⟨o,q⟩ _ K);obtain ⟨a,b,c⟩:=z j d;have:=g.2 j a;rcases this with h | h
 ·exact absurd h (A j d)
 ·cases f:ops[j]? with
  | none=>trivial
  | some p =>
   rw [f] at h;simp only [Bool.and_eq_true,Bool.not_eq_true',bne_iff_ne,ne_eq] at h;obtain ⟨⟨⟨V,W⟩,X⟩,B⟩:=h;refine ⟨V,W,X,fun e he=>?_⟩;rw [he] at B;simpa using B⟩
theorem Kk {xc:List Mon}{R R':List Nat}{i:Nat}(S:List Nat){dst:Tmp}{op:Op}{ty:TypeId}{pos:String}{after:Array Edge}{v:Value}(a:Uh Q dst) (b:(decide R.Nodup && enabled ops R i && waits ops R S i && Kj ops S R i && S.contains i)=true) (c:R.erase i=R') (d:ops[i]?=some ⟨some dst,op,ty,pos,after,none⟩)
  (Nb:Ak P ⟨some dst,op,ty,pos,after,none⟩ fr w v) (e:sc fr dst v U) (h:Zf P ops Q ((S,fun w'=>Ak P ⟨some dst,op,ty,pos,after,none⟩ fr w' v)::xc) R' U ds w):Zf P ops Q xc R fr ds w :=
 so S _ (wt:=true) a b c d (Ab rfl) (fun h=>by cases h) Nb (fun _ ds w' hw=>hw.out ds) e h
theorem hq {xc:List Mon}{R R':List Nat}{i j d:Nat}{b:Bool}(S:List Nat){dst:Tmp}{op:Op}{ty:TypeId}{pos:String}{after:Array Edge}{v:Value}(a:Uh Q dst) (c:(decide R.Nodup && enabled ops R i && waits ops R S i && Kj ops S R i && S.contains i)=true) (e:R.erase i=R') (f:ops[i]?=some ⟨some dst,op,ty,pos,after,some (j,b)⟩) (g:(ops[j]?).bind (·.dst)=some d) (k:oc fr d (.bool b))
  (Nb:Ak P ⟨some dst,op,ty,pos,after,some (j,b)⟩ fr w v) (l:sc fr dst v U) (h:Zf P ops Q ((S,fun w'=>Ak P ⟨some dst,op,ty,pos,after,some (j,b)⟩ fr w' v)::xc) R' U ds w):Zf P ops Q xc R fr ds w :=
 so S _ (wt:=true) a c e f (qo rfl g k) (fun h=>by cases h) Nb (fun _ ds w' hw=>hw.out ds) l h
theorem Og.add {m:Mon}(c:∀ w,m.2 w):∀ (b:List Nat){xc:List Mon}{a:Act}{w:World},Og P ops Q xc b a w→Og P ops Q (m::xc) b a w
 | [],_,_,_,h=>h
 | i::b,xc,a,w,h=>by
  have d:Kh i (m::xc)=m::Kh i xc∨Kh i (m::xc)=Kh i xc:=by
   unfold Kh;rw [List.filter_cons];split
   ·exact .inl rfl
   ·exact .inr rfl
  have key:∀ {a w},Og P ops Q (Kh i xc) b a w→Og P ops Q (Kh i (m::xc)) b a w:=fun h=>by
   rcases d with e | e<;>rw [e]
   ·exact Og.add c b h
   ·exact h
  have g:∀ {w},Ja (Kh i xc) w→Ja (Kh i (m::xc)) w:=fun h=>by
   rcases d with e | e<;>rw [e]
   ·exact ⟨c _,h⟩
   ·exact h
  simp only [Og] at h ⊢;cases f:ops[i]? with
  | none=>rw [f] at h; exact key h
  | some o =>
   rw [f] at h;simp only at h ⊢;split
   ·rename_i hw;rw [if_pos hw] at h;rcases h with h | h
    ·exact .inl (Jx h fun a w ⟨j,k⟩=>⟨g j,key k⟩)
    ·exact .inr h
   ·rename_i hw;rw [if_neg hw] at h;exact key h
theorem bu {xc:List Mon}{m:Mon}{R:List Nat}(b:∀ w,m.2 w) (h:Zf P ops Q xc R fr ds w):Zf P ops Q (m::xc) R fr ds w:=⟨fun c a d=>Og.add b a (h.out c.2 a d)⟩
theorem uf {xc:List Mon}{R R':List Nat}{i:Nat}(S:List Nat){dst:Tmp}{op:Op}{ty:TypeId}{pos:String}{after:Array Edge}{v:Value}(a:Uh Q dst) (b:(decide R.Nodup && enabled ops R i && waits ops R S i && Kj ops S R i && S.contains i)=true) (c:R.erase i=R') (d:ops[i]?=some ⟨some dst,op,ty,pos,after,none⟩)
  (Nb:Xe P ⟨some dst,op,ty,pos,after,none⟩ fr v) (e:sc fr dst v U) (h:Zf P ops Q xc R' U ds w):Zf P ops Q xc R fr ds w :=
 so S (fun _=>True) (wt:=true) a b c d (Ab rfl) (fun h=>by cases h) trivial (fun _ ds w' _=>Nb.out ds w') e (bu (fun _=>trivial) h)
theorem Qi {xc:List Mon}{R R':List Nat}{i j d:Nat}{b:Bool}(S:List Nat){dst:Tmp}{op:Op}{ty:TypeId}{pos:String}{after:Array Edge}{v:Value}(a:Uh Q dst) (c:(decide R.Nodup && enabled ops R i && waits ops R S i && Kj ops S R i && S.contains i)=true) (e:R.erase i=R') (f:ops[i]?=some ⟨some dst,op,ty,pos,after,some (j,b)⟩) (g:(ops[j]?).bind (·.dst)=some d) (k:oc fr d (.bool b))
  (Nb:Xe P ⟨some dst,op,ty,pos,after,some (j,b)⟩ fr v) (l:sc fr dst v U) (h:Zf P ops Q xc R' U ds w):Zf P ops Q xc R fr ds w :=
 so S (fun _=>True) (wt:=true) a c e f (qo rfl g k) (fun h=>by cases h) trivial (fun _ ds w' _=>Nb.out ds w') l (bu (fun _=>trivial) h)
theorem mf {xc:List Mon}{R R':List Nat}{i j d:Nat}{b kg:Bool}(S:List Nat){dst:Tmp}{op:Op}{ty:TypeId}{pos:String}{after:Array Edge}(a:Uh Q dst) (c:(decide R.Nodup && enabled ops R i && waits ops R S i && Kj ops S R i && S.contains i)=true) (e:R.erase i=R') (f:ops[i]?=some ⟨some dst,op,ty,pos,after,some (j,b)⟩) (g:(ops[j]?).bind (·.dst)=some d) (k:oc fr d (.bool kg)) (l:(kg == b)=false)
  (m:sc fr dst undef U) (h:Zf P ops Q xc R' U ds w):Zf P ops Q xc R fr ds w :=
 so S (fun _=>True) (wt:=false) a c e f ((FA rfl g k).trans l) (fun _=>rfl) trivial (fun h=>by cases h) m (bu (fun _=>trivial) h)
theorem LG {xc:List Mon}{R R':List Nat}{i j d:Nat}{b:Bool}(S:List Nat){dst:Tmp}{op:Op}{ty:TypeId}{pos:String}{after:Array Edge}(a:Uh Q dst) (c:(decide R.Nodup && enabled ops R i && waits ops R S i && Kj ops S R i && S.contains i)=true) (e:R.erase i=R') (f:ops[i]?=some ⟨some dst,op,ty,pos,after,some (j,b)⟩) (g:(ops[j]?).bind (·.dst)=some d) (k:oc fr d undef)
  (l:sc fr dst undef U) (h:Zf P ops Q xc R' U ds w):Zf P ops Q xc R fr ds w :=
 so S (fun _=>True) (wt:=false) a c e f (ME rfl g k) (fun _=>rfl) trivial (fun h=>by cases h) l (bu (fun _=>trivial) h)
structure Ku (P:Program) (ops:Array Oper) (Q:Exit→Act→World→Prop) (xc:List Mon) (R:List Nat) (fr:List Value) (ds:List Deferred) (w:World):Prop where
 m:Ja xc w
 s:Zf P ops Q xc R fr ds w
theorem Ja.s {m:Mon}{l:List Mon}(h:m.2 w) (k:Ja l w):Ja (m::l) w:=⟨h,k⟩
theorem Ja.z:Ja [] w:=trivial
theorem AB {xc:List Mon}{R:List Nat}(c:R≠[]) (h:∀ i ∈ nq ops R,∃ o,ops[i]?=some o∧Region.wanted o (yielded ops (F fr ds).tmps)=true∧Ed P o fr ds w (Ku P ops Q (Kh i xc) (R.erase i)) Q):Zf P ops Q xc R fr ds w:=⟨fun k d e=>by
 cases e with
 | z=>exact absurd rfl c
 | @s _ d i b f =>
  obtain ⟨o,g,hw,j⟩:=h i (List.mem_filter.2 ⟨ql b,b⟩);simp only [Og,g];rw [if_pos hw];exact .inl (j.out _ fun U ds' w' a=>⟨a.m,a.s.out a.m _ f⟩)⟩
theorem Cb {xc Ns':List Mon}{R:List Nat}{i:Nat}{R':List Nat}{o:Oper}(b:nq ops R=[i]) (c:R.erase i=R') (pb:Kh i xc=Ns') (d:ops[i]?=some o) (hw:Region.wanted o (yielded ops (F fr ds).tmps)=true)
  (h:Ed P o fr ds w (Ku P ops Q Ns' R') Q):Zf P ops Q xc R fr ds w :=
 AB (by intro e;subst e;cases b) fun k a=>by
  rw [b] at a;simp at a;subst a;exact ⟨_,d,hw,by rw [c,pb];exact h⟩
theorem FI {xc d f:List Mon}{R:List Nat}{i j:Nat}{g h:List Nat}{a b:Oper}(l:nq ops R=[i,j]) (m:R.erase i=g) (n:R.erase j=h) (o:Kh i xc=d) (p:Kh j xc=f) (q:ops[i]?=some a) (r:ops[j]?=some b) (s:Region.wanted a (yielded ops (F fr ds).tmps)=true) (t:Region.wanted b (yielded ops (F fr ds).tmps)=true)
  (u:Ed P a fr ds w (Ku P ops Q d g) Q) (v:Ed P b fr ds w (Ku P ops Q f h) Q):Zf P ops Q xc R fr ds w :=
 AB (by intro e;subst e;cases l) fun k c=>by
  rw [l] at c;simp at c;rcases c with rfl | rfl
  ·exact ⟨_,q,s,by rw [m,o];exact u⟩
  ·exact ⟨_,r,t,by rw [n,p];exact v⟩
theorem qC {xc:List Mon}{R:List Nat}{Oh Ph:List Value}{d:Nat}{b:Bool}(a:oc fr d (.bool b)) (c:sc fr d (.bool true) Oh) (e:sc fr d (.bool false) Ph)
  (f:b=true→Zf P ops Q xc R Oh ds w) (g:¬ b=true→Zf P ops Q xc R Ph ds w):Zf P ops Q xc R fr ds w:=by
 cases b with
 | true=>have:=f rfl; rw [sc.same a c] at this; exact this
 | false=>have:=g (by simp); rw [sc.same a e] at this; exact this
theorem jC {xc:List Mon}{R:List Nat}{Oh Ph:List Value}{d:Nat}{p:Prop}[Decidable p] (a:oc fr d (.bool (decide p))) (b:sc fr d (.bool true) Oh) (c:sc fr d (.bool false) Ph)
  (e:p→Zf P ops Q xc R Oh ds w) (f:¬ p→Zf P ops Q xc R Ph ds w):Zf P ops Q xc R fr ds w :=
 qC a b c (fun h=>e (of_decide_eq_true h)) (fun h=>f fun g=>h (decide_eq_true g))
end
end Go.bc
namespace Go.Xc
open Go.bc Go.RowKit
section
variable {P:Program}{Q:Exit→Act→World→Prop}{K:List Value→List Deferred→World→Prop}{fr U:List Value}{ds:List Deferred}{w:World}
variable {dst:Option Tmp}{ty:TypeId}{pos:String}{after:Array Edge}{g:Option (Nat×Bool)}
variable {w0:World}{rs rs':List jb}{μ I:M}
variable {T:TypeId}{d:TypeDesc}{zf:Bool}{td:List Value}{n m:Nat}
theorem MG {e:TypeId}{S Gd:Nat→Prop}{A:World→Prop}(c:P.underlying T=some (.slice e)) (a:kc P e zf td n m) (d:Sep S Gd w0 w rs A)
  (h:∀ b w',w.heap.size≤b→Sep S Gd w0 w' (.ba b e []::rs) A→Ng fr dst (.slice (some ⟨b,0,none⟩) 0 0) fun U=>K U ds w'):Ed P (Oper.mk dst (.buildSlice T 0 ⟨[]⟩) ty pos after g) fr ds w K Q:=by
 obtain ⟨U,pb⟩:=Sh fr dst (.slice (some ⟨w.heap.size,0,none⟩) 0 0);refine Bh (v:=.slice (some ⟨w.heap.size,0,none⟩) 0 0) (w':=w.alloc (.cells ⟨[]⟩ e)) ?_ pb (h _ _ (Nat.le_refl _) (d.alloc rfl (heap_alloc_new w _)) U pb);have f:=a.sizeOf (w:=w);obtain ⟨z,i,hc⟩:=a.zero (w:=w);simp [execOp,Instr.buildSlice,Sem.run_bind,run_underlying c,Result.andThen_ok,f,newRow,Instr.fill];have nc:Array.range 0=#[]:=Array.eq_empty_of_size_eq_zero (by simp);rw [nc,Array.map_empty]
theorem tz {t ty:TypeId}{sz bytes:Nat}(b:P.underlying t=some (.slice T)) (e:kc P T zf td sz bytes){v:Value}{xs:List Value}(f:Row w v T sz n xs){a:Option Addr}{c:Nat} :
  (Builtin.append_ #[t,t] ty #[v,.slice a 0 c]).run P w=.ok v w:=by
 have d:=e.sizeOf (w:=w);rcases f.2 with ⟨rfl,rfl⟩ | ⟨g,o,cap,cur,rfl,i,h,j,k,l⟩
 ·cases a<;>simp [Builtin.append_,run_underlying b,d,Builtin.lenOf,Builtin.firstCells,loadCells,loadCellsFrom]
 ·cases a<;>simp [Builtin.append_,run_underlying b,d,Builtin.lenOf,Builtin.firstCells,h,storeCells,loadCells,loadCellsFrom]
theorem cu {α:Type}[Va α]{t:TypeId}{s x:Operand}{v:Value}{bytes k c:Nat}{a:Option Addr}{cells news:List Value}{l ys j:List α}(n:P.underlying t=some (.slice T)) (p:kc P T zf td (Va.sz α) bytes) (z:td.length=Va.sz α)
  (q:db fr s v) (r:db fr x (.slice a ys.length c)) (f:ka μ w0 w rs) (m:oc rs k (.row v T (Va.sz α) l.length cells)) (A:ys≠[]→∃ b o,a=some ⟨b,o,none⟩∧tc μ b o news) (d:na μ news ys) (B:app l ys=some j) (C:bytes≤4096)
  (h:∀ i w' rs',sc rs k (.row i T (Va.sz α) j.length (cells++news)) rs'→ka μ w0 w' rs'→Ng fr dst i fun U=>K U ds w') :
  Ed P (Oper.mk dst (.call { callee:=.builtin .append,args:=#[s,x],argTypes:=#[t,t] }) ty pos after g) fr ds w K Q:=by
 obtain ⟨u,D⟩:=Jt B;by_cases y:ys=[]
 ·subst y;obtain rfl:news=[]:=d;have F:Row w v T (Va.sz α) l.length cells:=f.get m;obtain ⟨U,pb⟩:=Sh fr dst v;have G:=h v w rs (by
   have:j.length=l.length:=by simpa using u
   rw [this,List.append_nil];unfold sc;obtain ⟨H,e⟩:=List.getElem?_eq_some_iff.1 (show rs[k]?=_ from m);rw [← e];exact List.set_getElem_self H) f
  refine Bh (v:=v) (w':=w) ?_ pb (G U pb);have Ya:=q ds;have M:=r ds;have d:=tz (P:=P) (ty:=ty) (a:=a) (c:=c) n p F;simp [execOp,resolve,invoke,builtin,Ya,M,d]
 ·obtain ⟨b,o,rfl,N⟩:=A y;exact qn n p (by simp [z,Va.pos]) q r f m (N _ f.a) d.len d.sg ⟨D,C⟩ fun i w' rs' R=>h i w' rs' (by rw [u];exact R)
end
end Go.Xc
