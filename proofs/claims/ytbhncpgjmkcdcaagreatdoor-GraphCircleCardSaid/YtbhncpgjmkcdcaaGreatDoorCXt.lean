/- Texts of Xt. -/
import Derived.Test.YtbhncpgjmkcdcaaGreatDoorCWk
import Derived.LoopN
import Derived.KernelRfl
set_option linter.unusedSimpArgs false
set_option linter.unusedVariables false
set_option linter.unusedSectionVars false
namespace Go.kc
open Go.yb Go.RowKit
abbrev M:=World→Prop
def da (μ I:M):Prop:=∀ w,I w→μ w
theorem da.r {μ:M}:da μ μ:=fun _ h=>h
theorem da.t {a b c:M}(h:da a b) (k:da b c):da a c:=fun w x=>h w (k w x)
abbrev ha (μ:M) (w0 w:World) (rs:List kb):Prop:=Sep (fun _=>False) (fun _=>True) w0 w rs μ
def Ec (μ:M) (b o:Nat) (cs:List Value):Prop:=∀ w,μ w→aj w b o cs
theorem Ec.up {μ I:M}{b o:Nat}{cs:List Value}(h:Ec μ b o cs) (l:da μ I):Ec I b o cs:=fun w k=>h w (l w k)
class Ha (α:Type) where
 sz:Nat
 pos:0<sz
 cs:M→List Value→α→Prop
 Dg:∀ {μ:M}{l:List Value}{x:α},cs μ l x→l.length=sz
 up:∀ {μ I:M}{l:List Value}{x:α},da μ I→cs μ l x→cs I l x
 pg:∀ {μ:M}{l:List Value}{x:α},cs μ l x→l.all xe=true
structure Cd {α:Type}(sz:Nat) (R:List Value→α→Prop) (μ:M) (a:Option Addr) (c:Nat) (xs:List α):Prop where
 le:xs.length≤c
 cap:c≤maxLen
 el:xs=[]∨∃ b o,a=some ⟨b,o,none⟩∧∃ g:Nat→List Value,∀ i x,xs[i]?=some x→Ec μ b (o+i*sz) (g i)∧R (g i) x
abbrev Ba {α:Type}[Ha α] (μ:M) (a:Option Addr) (c:Nat) (xs:List α):Prop:=Cd (Ha.sz α) (Ha.cs μ) μ a c xs
theorem Cd.imp {α:Type}{sz:Nat}{R R':List Value→α→Prop}{μ I:M}{a:Option Addr}{c:Nat}{xs:List α}(h:Cd sz R μ a c xs) (l:da μ I) (f:∀ (i:Nat) (cs:List Value) (x:α),xs[i]?=some x→R cs x→R' cs x):Cd sz R' I a c xs where
 le:=h.le
 cap:=h.cap
 el:=by
  rcases h.el with h | ⟨b,o,j,g,e⟩
  ·exact .inl h
  ·exact .inr ⟨b,o,j,g,fun i x d=>⟨(e i x d).1.up l,f i _ x d (e i x d).2⟩⟩
theorem Ba.up {α:Type}[Ha α]{μ I:M}{a:Option Addr}{c:Nat}{xs:List α}(h:Ba μ a c xs) (l:da μ I):Ba I a c xs:=Cd.imp h l fun _ _ _ _=>Ha.up l
theorem Ba.nil {α:Type}[Ha α]{μ:M}{a:Option Addr}:Ba (α:=α) μ a 0 []:=⟨by simp,by simp,.inl rfl⟩
theorem Ba.len {α:Type}{sz:Nat}{R:List Value→α→Prop}{μ:M}{a:Option Addr}{c:Nat}{xs:List α}(h:Cd sz R μ a c xs):xs.length≤9223372036854775807:=Nat.le_trans h.le h.cap
instance:Ha Int where
 sz:=1
 pos:=by decide
 cs _ l x:=l=[.int .i64 x]
 Dg h:=by rw [h];rfl
 up _ h:=h
 pg h:=by rw [h];rfl
instance:Ha Bool where
 sz:=1
 pos:=by decide
 cs _ l x:=l=[.bool x]
 Dg h:=by rw [h];rfl
 up _ h:=h
 pg h:=by rw [h];rfl
instance {α:Type}[Ha α]:Ha (List α) where
 sz:=1
 pos:=by decide
 cs μ l xs:=∃ a c,l=[.slice a xs.length c]∧Ba μ a c xs
 Dg h:=by obtain ⟨a,c,rfl,-⟩:=h;rfl
 up l h:=by obtain ⟨a,c,b,d⟩:=h;exact ⟨a,c,b,d.up l⟩
 pg h:=by obtain ⟨a,c,rfl,-⟩:=h;rfl
instance:Ha (List UInt8) where
 sz:=1
 pos:=by decide
 cs _ l x:=l=[S x]
 Dg h:=by rw [h];rfl
 up _ h:=h
 pg h:=by rw [h];rfl
def i64 (n:Int):Option Int:=if -9223372036854775808≤n∧n≤9223372036854775807 then some n else none
def On (n:Int):Int:=IntKind.i64.wrap n
def at_ {α:Type}(l:List α) (i:Int):Option α:=if 0≤i then l[i.toNat]? else none
def cut {α:Type}(l:List α) (i j:Int):Option (List α):=if 0≤i∧i≤j∧j≤l.length then some ((l.take j.toNat).drop i.toNat) else none
def cat (a b:List UInt8):Option (List UInt8):=if a.length+b.length≤9223372036854775807 then some (a++b) else none
def app {α:Type}(l:List α) (xs:List α):Option (List α):=if l.length+xs.length≤4294967296 then some (l++xs) else none
def quo (a b:Int):Option Int:=if b=0 then none else some (On (a.tdiv b))
theorem fa {α β:Type}{o:Option α}{f:α→Option β}{r:β}(h:Option.bind o f=some r):∃ x,o=some x∧f x=some r:=Option.bind_eq_some_iff.1 h
theorem gg {α:Type}{c:Prop}[Decidable c]{x y:α}{r:α}(hc:c) (h:(if c then x else y)=r):x=r:=by rwa [if_pos hc] at h
theorem xc {α:Type}{c:Prop}[Decidable c]{x y:α}{r:α}(hc:¬ c) (h:(if c then x else y)=r):y=r:=by rwa [if_neg hc] at h
theorem jJ {n x:Int}(h:i64 n=some x):x=n∧-9223372036854775808≤n∧n≤9223372036854775807:=by
 unfold i64 at h;split at h
 ·rename_i hc;exact ⟨(Option.some.inj h).symm,hc⟩
 ·cases h
theorem Ny {n x:Int}(h:i64 n=some x):IntKind.i64.wrap n=x:=by
 obtain ⟨rfl,a,b⟩:=jJ h;exact wr (by omega)
theorem ax {α:Type}{l:List α}{i:Int}{x:α}(h:at_ l i=some x):0≤i∧i<l.length∧l[i.toNat]?=some x:=by
 unfold at_ at h;split at h
 ·rename_i hc;refine ⟨hc,?_,h⟩;have:=(List.getElem?_eq_some_iff.1 h).1;omega
 ·cases h
theorem Ar {α:Type}{l ys:List α}{i j:Int}(h:cut l i j=some ys):(0≤i∧i≤j∧j≤l.length)∧ys=(l.take j.toNat).drop i.toNat:=by
 unfold cut at h;split at h
 ·rename_i hc;exact ⟨hc,(Option.some.inj h).symm⟩
 ·cases h
theorem kJ {a b c:List UInt8}(h:cat a b=some c):c=a++b∧a.length+b.length≤9223372036854775807:=by
 unfold cat at h;split at h
 ·rename_i hc;exact ⟨(Option.some.inj h).symm,hc⟩
 ·cases h
theorem uz {α:Type}{a b c:List α}(h:app a b=some c):c=a++b∧a.length+b.length≤4294967296:=by
 unfold app at h;split at h
 ·rename_i hc;exact ⟨(Option.some.inj h).symm,hc⟩
 ·cases h
structure oj (v:Value) (sz:Nat) (i:Int) (b o:Nat):Prop where
 out:∃ a n c,v=.slice (some ⟨b,a,none⟩) n c∧0≤i∧i<n∧a+i.toNat*sz=o
theorem Cd.elem {α:Type}{sz:Nat}{R:List Value→α→Prop}{μ:M}{a:Option Addr}{c:Nat}{xs:List α}{i:Int}{x:α}(h:Cd sz R μ a c xs) (g:at_ xs i=some x) :
  ∃ b o cs,oj (.slice a xs.length c) sz i b o∧Ec μ b o cs∧R cs x:=by
 obtain ⟨j,k,d⟩:=ax g;rcases h.el with rfl | ⟨b,o,rfl,f,e⟩
 ·simp at d
 ·exact ⟨b,_,f i.toNat,⟨o,_,_,rfl,j,k,rfl⟩,(e _ _ d).1,(e _ _ d).2⟩
def na {α:Type}[Ha α] (μ:M):List Value→List α→Prop
 | cells,[]=>cells=[]
 | cells,x::l=>∃ cs t,cells=cs++t∧Ha.cs μ cs x∧na μ t l
theorem na.len {α:Type}[Ha α]{μ:M}:∀ {l:List α}{cells:List Value},na μ cells l→cells.length=l.length*Ha.sz α
 | [],cells,h=>by rw [na] at h; simp [h]
 | x::l,cells,h=>by
  rw [na] at h;obtain ⟨cs,t,rfl,a,b⟩:=h;simp [na.len b,Ha.Dg a,Nat.add_mul,Nat.add_comm]
theorem na.up {α:Type}[Ha α]{μ I:M}(a:da μ I):∀ {l:List α}{cells:List Value},na μ cells l→na I cells l
 | [],cells,h=>by rw [na] at h ⊢; exact h
 | x::l,cells,h=>by
  rw [na] at h ⊢;obtain ⟨cs,t,b,c,d⟩:=h;exact ⟨cs,t,b,Ha.up a c,na.up a d⟩
theorem na.cat {α:Type}[Ha α]{μ:M}{b:List α}{a:List Value}(k:na μ a b):∀ {l:List α}{cells:List Value},na μ cells l→na μ (cells++a) (l++b)
 | [],cells,h=>by rw [na] at h; subst h; exact k
 | x::l,cells,h=>by
  rw [na] at h;obtain ⟨cs,t,rfl,c,d⟩:=h;rw [List.cons_append,na];exact ⟨cs,t++a,by simp,c,na.cat k d⟩
theorem na.nil {α:Type}[Ha α]{μ:M}:na μ [] ([]:List α):=rfl
theorem na.one {α:Type}[Ha α]{μ:M}{cs:List Value}{x:α}(h:Ha.cs μ cs x):na μ cs [x]:=⟨cs,[],by simp,h,rfl⟩
theorem na.cons {α:Type}[Ha α]{μ:M}{cs t:List Value}{x:α}{l:List α}(h:Ha.cs μ cs x) (k:na μ t l):na μ (cs++t) (x::l):=⟨cs,t,rfl,h,k⟩
theorem na.pg {α:Type}[Ha α]{μ:M}:∀ {l:List α}{cells:List Value},na μ cells l→cells.all xe=true
 | [],cells,h=>by rw [na] at h; simp [h]
 | x::l,cells,h=>by
  rw [na] at h;obtain ⟨cs,t,rfl,a,b⟩:=h;rw [List.all_append,Ha.pg a,na.pg b];rfl
theorem na.get {α:Type}[Ha α]{μ:M}:∀ {l:List α}{cells:List Value}{i:Nat}{x:α},na μ cells l→l[i]?=some x→Ha.cs μ ((cells.drop (i*Ha.sz α)).take (Ha.sz α)) x
 | [],cells,i,x,h,a=>by simp at a
 | y::l,cells,i,x,h,a=>by
  rw [na] at h;obtain ⟨cs,t,rfl,b,c⟩:=h;cases i with
  | zero=>simp at a; subst a; simp [← Ha.Dg b]; exact b
  | succ i =>
   simp at a;have:=na.get c a;have e:(i+1)*Ha.sz α=cs.length+i*Ha.sz α:=by rw [Nat.add_mul,Ha.Dg b];omega
   rw [e,← List.drop_drop];simpa using this
theorem Ba.cells {α:Type}[Ha α]{μ:M}{a:Option Addr}{c:Nat}:∀ {xs:List α},Ba μ a c xs→∃ cells,na μ cells xs∧(xs≠[]→∃ b o,a=some ⟨b,o,none⟩∧Ec μ b o cells):=by
 intro xs h;rcases h.el with rfl | ⟨b,o,rfl,g,p⟩
 ·exact ⟨[],rfl,fun h=>absurd rfl h⟩
 ·have key:∀ (l:List α) (k:Nat),xs.drop k=l→∃ cells,na μ cells l∧Ec μ b (o+k*Ha.sz α) cells:=by
   intro l
   induction l with
   | nil=>intro k _; exact ⟨[],rfl,fun w _ j v d=>by simp at d⟩
   | cons x l q =>
    intro k m;have r:xs[k]?=some x:=by
     have:=congrArg (fun l=>l[0]?) m;simpa using this
    obtain ⟨cells,f,i⟩:=q (k+1) (by rw [← List.tail_drop,m];rfl);obtain ⟨s,n⟩:=p k x r;refine ⟨g k++cells,na.cons n f,fun w hw j v d=>?_⟩;rcases Nat.lt_or_ge j (g k).length with e | e
    ·rw [List.getElem?_append_left e] at d;exact s w hw j v d
    ·rw [List.getElem?_append_right e] at d;have:=i w hw _ v d;rw [Ha.Dg n] at this e;rw [show o+(k+1)*Ha.sz α+(j - Ha.sz α)=o+k*Ha.sz α+j by rw [Nat.add_mul];omega] at this;exact this
  obtain ⟨cells,f,i⟩:=key xs 0 rfl;exact ⟨cells,f,fun _=>⟨b,o,rfl,by simpa using i⟩⟩
section
variable {P:Program}{Q:Exit→Act→World→Prop}{K:List Value→List Deferred→World→Prop}{fr sa:List Value}{ds:List Deferred}{w:World}
variable {dst:Option Tmp}{ty:TypeId}{pos:String}{after:Array Edge}{g:Option (Nat×Bool)}
variable {w0:World}{rs rs':List kb}{μ:M}
variable {T:TypeId}{d:TypeDesc}{Bf:Bool}{sd:List Value}{n m:Nat}
theorem Xc {c:Code}(f:List Nat) (i:f.Nodup) (d:List ob→World→Prop) (j:∀ m w,d m w→opens m=f)
  (h:te P c (Exit.then (fun n w'=>∃ m sa,n=F sa ds∧Be m fr sa∧d m w') Q) fr ds w)
  (k:∀ m t w,d m w→Q .normal (F (hi t m fr) ds) w):te P c Q fr ds w:=⟨
 wp_mono h.out fun e a w' b=>by
  cases e with
  | normal =>
   obtain ⟨m,sa,rfl,o,g⟩:=b;obtain ⟨Lb,p⟩:=o.ex (by rw [j m w' g];exact i);have:=k m Lb w' g;rw [← p] at this;exact this
  | exit id=>exact b
  | goto l=>exact b
  | ret=>exact b
  | panic q=>exact b
  | outgrown=>exact b⟩
theorem Oe {c:Code}(f:List Nat) (j:f.Nodup) (b:Nat→List ob→World→Prop) (g:∀ n m w,b n m w→opens m=f) (Td:Nat) (m0:List ob) (k:Be m0 fr fr) (h:b Td m0 w)
  (round:∀ n m t w,b n m w→te P c (Exit.then (fun l w'=>∃ d e sa,l=F sa ds∧Be e fr sa∧b d e w'∧d<n) Q) (hi t m fr) ds w):te P (.loop c) Q fr ds w:=by
 refine OK (α:={ p:Nat×List ob // opens p.2=f }) f j (fun p=>p.1.2) (fun p=>p.2) (fun p w=>b p.1.1 p.1.2 w) (fun p _=>p.1.1) ⟨(Td,m0),g Td m0 w h⟩ k h fun p t w o=>?_;refine (round p.1.1 p.1.2 t w o).mono (CF fun a w' ⟨d,e,sa,q,r,i,s⟩=>⟨⟨(d,e),g d e w' i⟩,sa,q,r,i,s⟩)
theorem Uh {c:Operand}{x y:Code}{b:Bool}(hc:Ya fr c (.bool b)) (a:b=true→te P x Q fr ds w) (d:¬ b=true→te P y Q fr ds w):te P (.cond c x y) Q fr ds w :=
 vA hc a fun h=>d (by rw [h];simp)
theorem Mo {c:Operand}{x y:Code}{b:Bool}(hc:Ya fr c (.bool (!b))) (a:¬ b=true→te P x Q fr ds w) (d:b=true→te P y Q fr ds w):te P (.cond c x y) Q fr ds w :=
 vA hc (fun h=>a (by simpa using h)) fun h=>d (by simpa using h)
theorem TL {ops:Array Oper}{l:List Oper}{Wh Xh:List Value}{d:Nat}{b:Bool}(a:Pb fr d (.bool b)) (c:oc fr d (.bool true) Wh) (e:oc fr d (.bool false) Xh)
  (f:b=true→Af P ops Q l Wh ds w) (g:¬ b=true→Af P ops Q l Xh ds w):Af P ops Q l fr ds w:=wA a c e f fun h=>g (by rw [h];simp)
theorem ZK {ops:Array Oper}{l:List Oper}{Wh Xh:List Value}{d:Nat}{b:Bool}(a:Pb fr d (.bool (!b))) (c:oc fr d (.bool true) Wh) (e:oc fr d (.bool false) Xh)
  (f:¬ b=true→Af P ops Q l Wh ds w) (g:b=true→Af P ops Q l Xh ds w):Af P ops Q l fr ds w:=wA a c e (fun h=>f (by simpa using h)) fun h=>g (by simpa using h)
inductive ud:List kb→Nat→List kb→Prop where
 | z {rs:List kb}:ud rs 0 rs
 | s {a r:kb} {rs rs':List kb} {k:Nat} (h:ud rs k (r::rs')):ud (a::rs) (k+1) (r::a::rs')
theorem ud.perm {k:Nat}{rs rs':List kb}(h:ud rs k rs'):rs.Perm rs':=by
 induction h with
 | z=>exact .refl _
 | s _ a=>exact (a.cons _).trans (.swap _ _ _)
theorem _root_.Go.yb.Sep.ca {k:Nat}{S Ad:Nat→Prop}{A:World→Prop}(h:Sep S Ad w0 w rs A) (a:ud rs k rs'):Sep S Ad w0 w rs' A where
 keeps:=h.keeps
 all r c:=h.all r (a.perm.mem_iff.2 c)
 ki:=(a.perm.filterMap _).nodup_iff.1 h.ki
 new b d:=h.new b ((a.perm.filterMap _).mem_iff.2 d)
 Gi:=h.Gi.mono fun k _ hs=>⟨hs.1,fun hm=>hs.2 ((a.perm.filterMap kb.block).mem_iff.2 hm)⟩
theorem _root_.Go.yb.Sep.Cx {r:kb}{B:World→Prop}(h:ha μ w0 w (r::rs)) (a:∀ w,r.holds w→B w):ha (fun w=>μ w∧B w) w0 w rs :=
 Sep.freeze h (d0 (α:=kb)) ga.z (fun _ _=>.inl trivial) a
theorem _root_.Go.yb.Sep.cj {α:Type}[Ha α]{v:Value}{cells:List Value}{l:List α}(h:ha μ w0 w (.row v T (Ha.sz α) n cells::rs)) (m:na μ cells l) (e:l.length=n) :
  ∃ I a c,v=.slice a l.length c∧da μ I∧Ba I a c l∧ha I w0 w rs:=by
 have p:Row w v T (Ha.sz α) n cells:=h.all _ (List.mem_cons_self ..);have f:=Sep.Cx (B:=fun w=>Row w v T (Ha.sz α) n cells) h fun w hw=>hw;have hle:da μ (fun w=>μ w∧Row w v T (Ha.sz α) n cells):=fun w hw=>hw.1;rcases p.2 with ⟨rfl,rfl⟩ | ⟨g,o,cap,cur,rfl,A,q,r,C,D⟩
 ·obtain rfl:=List.eq_nil_of_length_eq_zero e;exact ⟨_,none,0,rfl,hle,Ba.nil,f⟩
 ·subst e;refine ⟨_,some ⟨g,o,none⟩,cap,rfl,hle,⟨q,r,.inr ⟨g,o,rfl,fun i=>(cells.drop (i*Ha.sz α)).take (Ha.sz α),fun i x k=>⟨?_,?_⟩⟩⟩,f⟩
  ·intro F s j u d;obtain ⟨-,t⟩:=s;have y:0<l.length:=by have:=(List.getElem?_eq_some_iff.1 k).1;omega
   obtain ⟨b,o',c,Wa,hc⟩:=t.Bn y;simp at Wa;obtain ⟨⟨rfl,rfl⟩,rfl⟩:=Wa;have z:j<Ha.sz α:=by
    have:=(List.getElem?_eq_some_iff.1 d).1;simp at this;omega
   rw [List.getElem?_take_of_lt z,List.getElem?_drop] at d;have:=hc _ u d;rw [← Nat.add_assoc] at this;exact this
  ·exact Ha.up hle (m.get k)
theorem _root_.Go.yb.Sep.xj {α:Type}[Ha α]{b:Nat}{cells:List Value}{l:List α}(h:ha μ w0 w (.ba b T cells::rs)) (c:na μ cells l) (hlen:l.length≤maxLen) :
  ∃ I,da μ I∧Ba I (some ⟨b,0,none⟩) l.length l∧ha I w0 w rs:=by
 have d:=Sep.Cx (B:=fun w=>ji w b T cells) h fun w hw=>hw;have hle:da μ (fun w=>μ w∧ji w b T cells):=fun w hw=>hw.1;refine ⟨_,hle,⟨Nat.le_refl _,hlen,.inr ⟨b,0,rfl,fun i=>(cells.drop (i*Ha.sz α)).take (Ha.sz α),fun i x e=>⟨?_,Ha.up hle (c.get e)⟩⟩⟩,d⟩;intro k f j u a;have g:j<Ha.sz α:=by
  have:=(List.getElem?_eq_some_iff.1 a).1;simp at this;omega
 rw [List.getElem?_take_of_lt g,List.getElem?_drop] at a;have:=f.2.cells _ u a;rw [Nat.zero_add] at this ⊢;exact this
theorem _root_.Go.yb.Sep.Cn {b:Nat}{cells:List Value}(h:ha μ w0 w (.ba b T cells::rs)):∃ I,da μ I∧Ec I b 0 cells∧ha I w0 w rs :=
 ⟨_,fun _ hw=>hw.1,fun _ hw=>hw.2.cells,Sep.Cx (B:=fun w=>ji w b T cells) h fun _ hw=>hw⟩
theorem _root_.Go.yb.Sep.Rp {sz:Nat}{b k:Nat}{cells:List Value}{S Ad:Nat→Prop}{A:World→Prop}(h:Sep S Ad w0 w rs A) (c:Pb rs k (.ba b T cells)) (a:cells.length=n*sz) (hlen:n≤maxLen)
  (d:oc rs k (.row (.slice (some ⟨b,0,none⟩) n n) T sz n cells) rs'):Sep S Ad w0 w rs' A:=by
 have e:ji w b T cells:=h.get c;refine h.put (b:=b) c rfl rfl d ⟨a,.inr ⟨b,0,n,⟨cells⟩,rfl,e,Nat.le_refl _,hlen,by simp [a],by simp [← a]⟩⟩ (Eh.refl _)
theorem Pc {x y:Operand}{v:Value}{b o sz:Nat}{k:IntKind}{i:Int}{e:TypeId}(a:P.underlying T=some (.slice e)) (d:mc P e Bf sd sz m) (f:Ya fr x v) (h:Ya fr y (.int k i)) (he:oj v sz i b o):Ke P (Oper.mk dst (.indexAddr T x y) ty pos after g) fr ((.pointer (some ⟨b,o,none⟩))):=by
 obtain ⟨q,n,c,rfl,j,l,p⟩:=he.out;exact qu a d f h ⟨j,l⟩ p
theorem Nr {x y:Operand}{v:Value}{b o sz:Nat}{k:IntKind}{i:Int}{e:TypeId}(a:P.underlying T=some (.slice e)) (c:mc P e Bf sd sz m) (d:Ya fr x v) (f:Ya fr y (.int k i)) (he:oj v sz i b o) (j:Xe fr dst ((.pointer (some ⟨b,o,none⟩))) sa) (h:K sa ds w):Gd P (Oper.mk dst (.indexAddr T x y) ty pos after g) fr ds w K Q:=va (Pc a c d f he) j h
theorem Bd {x y:Operand}{t Lb:TypeId}{a b c:Int}(d:Ya fr x (.int .i64 a)) (e:Ya fr y (.int .i64 b)) (h:i64 (a+b)=some c):Ke P (Oper.mk dst (.binOp .add t x y Lb) ty pos after g) fr ((.int .i64 c)):=pD d e (Ny h)
theorem vz {x y:Operand}{t Lb:TypeId}{a b c:Int}(d:Ya fr x (.int .i64 a)) (e:Ya fr y (.int .i64 b)) (h:i64 (a+b)=some c) (f:Xe fr dst ((.int .i64 c)) sa) (k:K sa ds w):Gd P (Oper.mk dst (.binOp .add t x y Lb) ty pos after g) fr ds w K Q:=va (Bd d e h) f k
theorem Di {x y:Operand}{t Lb:TypeId}{a b c:Int}(d:Ya fr x (.int .i64 a)) (e:Ya fr y (.int .i64 b)) (h:i64 (a - b)=some c):Ke P (Oper.mk dst (.binOp .sub t x y Lb) ty pos after g) fr ((.int .i64 c)):=Mz d e (Ny h)
theorem lJ {x y:Operand}{t Lb:TypeId}{a b c:Int}(d:Ya fr x (.int .i64 a)) (e:Ya fr y (.int .i64 b)) (h:i64 (a - b)=some c) (f:Xe fr dst ((.int .i64 c)) sa) (k:K sa ds w):Gd P (Oper.mk dst (.binOp .sub t x y Lb) ty pos after g) fr ds w K Q:=va (Di d e h) f k
theorem mJ {x y:Operand}{t Lb:TypeId}{a b c:Int}(d:Ya fr x (.int .i64 a)) (e:Ya fr y (.int .i64 b)) (h:i64 (a*b)=some c):Ke P (Oper.mk dst (.binOp .mul t x y Lb) ty pos after g) fr ((.int .i64 c)):=Nz d e (Ny h)
theorem Br {a b c:Int}(h:quo a b=some c):b≠0∧IntKind.i64.wrap (a.tdiv b)=c:=by
 unfold quo at h;split at h
 ·cases h
 ·rename_i d;exact ⟨d,Option.some.inj h⟩
theorem nJ {x y:Operand}{t:TypeId}{k:IntKind}{a:List UInt8}{i:Int}{c:UInt8}(b:P.underlying t=some .string) (d:Ya fr x (S a)) (e:Ya fr y (.int k i)) (h:at_ a i=some c):Ke P (Oper.mk dst (.index t x y) ty pos after g) fr (.int .u8 c.toNat):=dJ b d e (ax h).1 (ax h).2.2
theorem Iw {x y:Operand}{t:TypeId}{k:IntKind}{a:List UInt8}{i:Int}{c:UInt8}(b:P.underlying t=some .string) (d:Ya fr x (S a)) (e:Ya fr y (.int k i)) (h:at_ a i=some c) (f:Xe fr dst (.int .u8 c.toNat) sa) (kk:K sa ds w):Gd P (Oper.mk dst (.index t x y) ty pos after g) fr ds w K Q:=va (nJ b d e h) f kk
theorem OC {x y:Operand}{t Lb:TypeId}{a b c:List UInt8}(d:Ya fr x (S a)) (e:Ya fr y (S b)) (h:cat a b=some c):Ke P (Oper.mk dst (.binOp .add t x y Lb) ty pos after g) fr (S c):=by
 obtain ⟨rfl,f⟩:=kJ h;exact VK d e f
structure iq (v:Value) (sz:Nat) (i j:Option Int) (b:Value):Prop where
 out:∃ a n c,v=.slice a n c∧0≤i.getD 0∧i.getD 0≤j.getD n∧j.getD n≤c∧b=.slice (if c=(i.getD 0).toNat then a else a.map (·.add ((i.getD 0).toNat*sz))) ((j.getD n).toNat - (i.getD 0).toNat) (c - (i.getD 0).toNat)
inductive Mx (fr:List Value):Option Operand→Option Int→Prop where
 | n:Mx fr none none
 | s {x:Operand} {i:Int} (h:Ya fr x (.int .i64 i)):Mx fr (some x) (some i)
theorem Ll {x:Operand}{zi up:Option Operand}{v q:Value}{sz:Nat}{i j:Option Int}{e:TypeId}(f:P.underlying T=some (.slice e)) (k:mc P e Bf sd sz m) (l:Ya fr x v) (Ua:Mx fr zi i) (r:Mx fr up j) (he:iq v sz i j q):Ke P (Oper.mk dst (.slice T x zi up none) ty pos after g) fr q:=by
 obtain ⟨a,n,c,rfl,o,b,d,rfl⟩:=he.out;refine ⟨fun ds w=>?_⟩;cases Ua with
 | n =>
  cases r with
  | n =>
   simp at b d;simp [execOp,l ds,Instr.sliceAt,Instr.slice,run_underlying f,Instr.sliceBounds,k.sizeOf];try rfl
  | s h =>
   rename_i y i;simp at b d;have qa:i≤(c:Int):=d;simp [execOp,l ds,h ds,Instr.sliceAt,Instr.slice,run_underlying f,Instr.sliceBounds,Instr.sliceBound,asIntOf,k.sizeOf,b,qa];try rfl
 | s h =>
  rename_i y i;cases r with
  | n =>
   simp at o b d;simp [execOp,l ds,h ds,Instr.sliceAt,Instr.slice,run_underlying f,Instr.sliceBounds,Instr.sliceBound,asIntOf,k.sizeOf,o,b];try rfl
  | s t =>
   rename_i z p;simp at o b d;have qa:0≤p:=by omega
   have u:(p.toNat:Int)=p:=by omega
   simp [execOp,l ds,h ds,t ds,Instr.sliceAt,Instr.slice,run_underlying f,Instr.sliceBounds,Instr.sliceBound,asIntOf,k.sizeOf,o,b,d,qa,u];try rfl
theorem Ba.jq {α:Type}[Ha α]{μ:M}{a:Option Addr}{c:Nat}{xs ys:List α}{i j:Option Int}(h:Ba μ a c xs) (g:cut xs (i.getD 0) (j.getD xs.length)=some ys) :
  ∃ e c',iq (.slice a xs.length c) (Ha.sz α) i j (.slice e ys.length c')∧Ba μ e c' ys:=by
 obtain ⟨⟨l,m,q⟩,rfl⟩:=Ar g;have hle:=h.le;refine ⟨(if c=(i.getD 0).toNat then a else a.map (·.add ((i.getD 0).toNat*Ha.sz α))),c - (i.getD 0).toNat,⟨a,xs.length,c,rfl,l,m,by omega,?_⟩,?_⟩
 ·rw [show ((xs.take (j.getD ↑xs.length).toNat).drop (i.getD 0).toNat).length=(j.getD ↑xs.length).toNat - (i.getD 0).toNat by simp;omega]
 ·refine ⟨by simp;omega,by have:=h.cap;omega,?_⟩;rcases h.el with rfl | ⟨b,o,rfl,f,n⟩
  ·left;simp
  ·by_cases hc:c=(i.getD 0).toNat
   ·left;rw [List.drop_eq_nil_iff];simp;omega
   ·right;rw [if_neg hc];refine ⟨b,o+(i.getD 0).toNat*Ha.sz α,by simp [Ij],fun k=>f ((i.getD 0).toNat+k),fun k x d=>?_⟩;rw [List.getElem?_drop] at d;have p:(i.getD 0).toNat+k<(j.getD ↑xs.length).toNat:=by
     have:=(List.getElem?_eq_some_iff.1 d).1;simp at this;omega
    rw [List.getElem?_take_of_lt p] at d;have:=n _ x d;rw [Nat.add_mul,← Nat.add_assoc] at this;exact this
end
end Go.kc
namespace Go.kc
open Go.yb Go.RowKit
section
variable {P:Program}{Q:Exit→Act→World→Prop}{K:List Value→List Deferred→World→Prop}{fr sa:List Value}{ds:List Deferred}{w:World}
variable {dst:Option Tmp}{ty:TypeId}{pos:String}{after:Array Edge}{g:Option (Nat×Bool)}
variable {w0:World}{rs rs':List kb}{μ:M}
variable {T:TypeId}{d:TypeDesc}{Bf:Bool}{sd:List Value}{n m:Nat}
theorem PB {x zi:Operand}{t:TypeId}{a b:List UInt8}{i:Int}(c:P.underlying t=some .string) (d:Ya fr x (S a)) (Ua:Ya fr zi (.int .i64 i)) (h:cut a i a.length=some b):Ke P (Oper.mk dst (.slice t x (some zi) none none) ty pos after g) fr (S b):=by
 obtain ⟨⟨e,f,j⟩,rfl⟩:=Ar h;have:=HH (dst:=dst) (ty:=ty) (pos:=pos) (after:=after) (g:=g) c d Ua ⟨e,f⟩;simpa using this
theorem Oy {x up:Operand}{t:TypeId}{a b:List UInt8}{j:Int}(c:P.underlying t=some .string) (d:Ya fr x (S a)) (e:Ya fr up (.int .i64 j)) (h:cut a 0 j=some b):Ke P (Oper.mk dst (.slice t x none (some up) none) ty pos after g) fr (S b):=by
 obtain ⟨⟨k,f,i⟩,rfl⟩:=Ar h;have:=IH (dst:=dst) (ty:=ty) (pos:=pos) (after:=after) (g:=g) c d e ⟨f,i⟩;simpa using this
theorem _root_.Go.yb.Row.xe {v:Value}{sz n:Nat}{xs:List Value}(h:Row w v T sz n xs):xe v=true:=by
 rcases h.2 with ⟨rfl,_⟩ | ⟨g,o,cap,cur,rfl,_⟩<;>rfl
theorem Pm {f:Nat}{xs ys:List Operand}{vs us:List Value}(hs:rl fr xs vs) (hu:rl fr ys us):Ke P (Oper.mk dst (.makeFunc (.func f) ⟨xs⟩ ⟨ys⟩) ty pos after g) fr (.func (.func f) ⟨vs⟩ ⟨us⟩):=by
 refine ⟨fun ds w=>?_⟩;have a:=hs ds;have b:=hu ds;simp [execOp,Instr.makeFunc,a,b]
theorem na.app {α:Type}[Ha α]{cells news:List Value}{l xs a:List α}(h:na μ cells l) (k:na μ news xs) (g:app l xs=some a):na μ (cells++news) a:=by
 obtain ⟨rfl,-⟩:=uz g;exact na.cat k h
theorem sw {α:Type}{l xs a:List α}(g:app l xs=some a):a.length=l.length+xs.length∧l.length+xs.length≤4294967296:=by
 obtain ⟨rfl,h⟩:=uz g;exact ⟨by simp,h⟩
theorem jj {α:Type}[Ha α]{t:TypeId}{s x:Operand}{v:Value}{bytes k b zl c:Nat}{cells news:List Value}{l ys d:List α}(f:P.underlying t=some (.slice T)) (i:mc P T Bf sd (Ha.sz α) bytes) (j:sd.length=Ha.sz α)
  (hs:Ya fr s v) (m:Ya fr x (.slice (some ⟨b,0,none⟩) zl c)) (n:ha μ w0 w rs) (o:Pb rs k (.row v T (Ha.sz α) l.length cells)) (p:aj w b 0 news) (e:na μ news ys) (hm:ys.length=zl) (q:app l ys=some d) (r:bytes≤4096)
  (h:∀ a w' rs',oc rs k (.row a T (Ha.sz α) d.length (cells++news)) rs'→ha μ w0 w' rs'→bh fr dst a fun sa=>K sa ds w') :
  Gd P (Oper.mk dst (.call { callee:=.builtin .append,args:=#[s,x],argTypes:=#[t,t] }) ty pos after g) fr ds w K Q:=by
 obtain ⟨u,y⟩:=sw q;subst hm;refine Hp f i (by simp [j,Ha.pos]) hs m n o p e.len e.pg ⟨y,r⟩ fun a w' rs' z=>h a w' rs' (by rw [u];exact z)
theorem _root_.Go.yb.aj.dn {b o:Nat}{cs:List Value}(h:aj w b o cs) (i n:Nat):aj w b (o+i) ((cs.drop i).take n):=by
 intro j v a;have c:j<n:=by
  have:=(List.getElem?_eq_some_iff.1 a).1;simp at this;omega
 rw [List.getElem?_take_of_lt c,List.getElem?_drop] at a;have:=h _ v a;rw [← Nat.add_assoc] at this;exact this
theorem Ec.dn {b o:Nat}{cs:List Value}(h:Ec μ b o cs) (i n:Nat):Ec μ b (o+i) ((cs.drop i).take n):=fun w hw=>(h w hw).dn i n
theorem bd {x y:Operand}{b k:Nat}{cs vs:List Value}(d:mc P T Bf sd n m) (e:Ya fr x (.pointer (some ⟨b,0,none⟩))) (f:Ya fr y (.agg ⟨vs⟩)) (i:vs.length=n) (j:vs.all xe=true)
  {S Ad:Nat→Prop}{A:World→Prop}(l:Sep S Ad w0 w rs A) {a:TypeId}(o:Pb rs k (.ba b a cs)) (he:cs.length=n) (p:oc rs k (.ba b a vs) rs')
  (Na:Xe fr dst undef sa) (h:∀ w',Sep S Ad w0 w' rs' A→K sa ds w'):Gd P (Oper.mk dst (.store T x y) ty pos after g) fr ds w K Q:=by
 have key:∀ (vs cs pre:List Value),vs.length=cs.length→Nh (pre++cs) pre.length vs (pre++vs):=by
  intro vs
  induction vs with
  | nil=>intro cs pre h; cases cs with
   | nil=>exact .z
   | cons c cs=>simp at h
  | cons v vs q =>
   intro cs pre h;cases cs with
   | nil=>simp at h
   | cons c cs =>
    refine .s (cs1:=pre++v::cs) (by unfold oc;simp) (by simp) ?_;have:=q cs (pre++[v]) (by simpa using h);simpa using this
 exact ez d e f rfl i j l o (by simpa using key vs cs [] (by omega)) (by simp) p Na h
theorem gz {pl:Array (Nat×Nat)}{xs:List (Nat×Operand)}{out:List Value}(a:mc P T Bf sd n m) (b:qh P T pl) (c:wb fr pl sd xs out):Ke P (Oper.mk dst (.build T ⟨xs⟩) ty pos after g) fr (.agg ⟨out⟩):=by
 refine ⟨fun ds w=>?_⟩;obtain ⟨z,d,hc⟩:=a.zero (w:=w);have e:=c.run (ds:=ds);obtain ⟨fs,f,h⟩:=b.out;have hm:=h w;have j:((⟨xs⟩:Array (Nat×Operand)).map fun (i,x)=>(i,(F fr ds).eval x)).toList=xs.map fun p=>(p.1,(F fr ds).eval p.2):=by simp
 unfold execOp;simp only [Instr.build,Sem.run_bind,d,Result.andThen_ok,run_underlying f];rw [hm];simp only [Result.andThen_ok,hc,j];rw [e];simp
end
end Go.kc
namespace Go.yb
theorem oa {α:Type}{a0 pa a2 a3 a4 a5 Cb bc eb a9 v:α}{l:List α}{n:Nat}(h:Pb l n v):Pb (a0::pa::a2::a3::a4::a5::Cb::bc::eb::a9::l) (n+10) v:=h
theorem Sa {α:Type}{a0 pa a2 a3 a4 a5 Cb bc eb a9 v:α}{l a:List α}{n:Nat}(h:oc l n v a):oc (a0::pa::a2::a3::a4::a5::Cb::bc::eb::a9::l) (n+10) v (a0::pa::a2::a3::a4::a5::Cb::bc::eb::a9::a):=by unfold oc at *;subst h;rfl
theorem wa {α:Type}{a0 pa a2 a3 a4 a5 Cb bc eb a9 Dd zc a12 a Jc b c d e f v:α}{l:List α}{n:Nat}(h:Pb l n v):Pb (a0::pa::a2::a3::a4::a5::Cb::bc::eb::a9::Dd::zc::a12::a::Jc::b::c::d::e::f::l) (n+20) v:=h
theorem cb {α:Type}{a0 pa a2 a3 a4 a5 Cb bc eb a9 Dd zc a12 a Jc b c d e f v:α}{l g:List α}{n:Nat}(h:oc l n v g):oc (a0::pa::a2::a3::a4::a5::Cb::bc::eb::a9::Dd::zc::a12::a::Jc::b::c::d::e::f::l) (n+20) v (a0::pa::a2::a3::a4::a5::Cb::bc::eb::a9::Dd::zc::a12::a::Jc::b::c::d::e::f::g):=by unfold oc at *;subst h;rfl
theorem ua {α:Type}{a0 pa a2 a3 a4 a5 Cb bc eb a9 Dd zc a12 a Jc b c d e f a20 a21 a22 a23 a24 a25 a26 g a28 i v:α}{l:List α}{n:Nat}(h:Pb l n v):Pb (a0::pa::a2::a3::a4::a5::Cb::bc::eb::a9::Dd::zc::a12::a::Jc::b::c::d::e::f::a20::a21::a22::a23::a24::a25::a26::g::a28::i::l) (n+30) v:=h
theorem xb {α:Type}{a0 pa a2 a3 a4 a5 Cb bc eb a9 Dd zc a12 a Jc b c d e f a20 a21 a22 a23 a24 a25 a26 g a28 i v:α}{l j:List α}{n:Nat}(h:oc l n v j):oc (a0::pa::a2::a3::a4::a5::Cb::bc::eb::a9::Dd::zc::a12::a::Jc::b::c::d::e::f::a20::a21::a22::a23::a24::a25::a26::g::a28::i::l) (n+30) v (a0::pa::a2::a3::a4::a5::Cb::bc::eb::a9::Dd::zc::a12::a::Jc::b::c::d::e::f::a20::a21::a22::a23::a24::a25::a26::g::a28::i::j):=by unfold oc at *;subst h;rfl
theorem Oa {α:Type}{a0 pa a2 a3 a4 a5 Cb bc eb a9 Dd zc a12 a Jc b c d e f a20 a21 a22 a23 a24 a25 a26 g a28 i j a31 k m o p q a37 r s v:α}{l:List α}{n:Nat}(h:Pb l n v):Pb (a0::pa::a2::a3::a4::a5::Cb::bc::eb::a9::Dd::zc::a12::a::Jc::b::c::d::e::f::a20::a21::a22::a23::a24::a25::a26::g::a28::i::j::a31::k::m::o::p::q::a37::r::s::l) (n+40) v:=h
theorem Sb {α:Type}{a0 pa a2 a3 a4 a5 Cb bc eb a9 Dd zc a12 a Jc b c d e f a20 a21 a22 a23 a24 a25 a26 g a28 i j a31 k m o p q a37 r s v:α}{l t:List α}{n:Nat}(h:oc l n v t):oc (a0::pa::a2::a3::a4::a5::Cb::bc::eb::a9::Dd::zc::a12::a::Jc::b::c::d::e::f::a20::a21::a22::a23::a24::a25::a26::g::a28::i::j::a31::k::m::o::p::q::a37::r::s::l) (n+40) v (a0::pa::a2::a3::a4::a5::Cb::bc::eb::a9::Dd::zc::a12::a::Jc::b::c::d::e::f::a20::a21::a22::a23::a24::a25::a26::g::a28::i::j::a31::k::m::o::p::q::a37::r::s::t):=by unfold oc at *;subst h;rfl
theorem db {α:Type}{a0 pa a2 a3 a4 a5 Cb bc eb a9 Dd zc a12 a Jc b c d e f a20 a21 a22 a23 a24 a25 a26 g a28 i j a31 k m o p q a37 r s a40 t u w x y a46 z A a49 v:α}{l:List α}{n:Nat}(h:Pb l n v):Pb (a0::pa::a2::a3::a4::a5::Cb::bc::eb::a9::Dd::zc::a12::a::Jc::b::c::d::e::f::a20::a21::a22::a23::a24::a25::a26::g::a28::i::j::a31::k::m::o::p::q::a37::r::s::a40::t::u::w::x::y::a46::z::A::a49::l) (n+50) v:=h
theorem dc {α:Type}{a0 pa a2 a3 a4 a5 Cb bc eb a9 Dd zc a12 a Jc b c d e f a20 a21 a22 a23 a24 a25 a26 g a28 i j a31 k m o p q a37 r s a40 t u w x y a46 z A a49 v:α}{l B:List α}{n:Nat}(h:oc l n v B):oc (a0::pa::a2::a3::a4::a5::Cb::bc::eb::a9::Dd::zc::a12::a::Jc::b::c::d::e::f::a20::a21::a22::a23::a24::a25::a26::g::a28::i::j::a31::k::m::o::p::q::a37::r::s::a40::t::u::w::x::y::a46::z::A::a49::l) (n+50) v (a0::pa::a2::a3::a4::a5::Cb::bc::eb::a9::Dd::zc::a12::a::Jc::b::c::d::e::f::a20::a21::a22::a23::a24::a25::a26::g::a28::i::j::a31::k::m::o::p::q::a37::r::s::a40::t::u::w::x::y::a46::z::A::a49::B):=by unfold oc at *;subst h;rfl
theorem tc {α:Type}{a0 pa a2 a3 a4 a5 Cb bc eb a9 Dd zc a12 a Jc b c d e f a20 a21 a22 a23 a24 a25 a26 g a28 i j a31 k m o p q a37 r s a40 t u w x y a46 z A a49 B a51 C a53 D F G H K a59 v:α}{l:List α}{n:Nat}(h:Pb l n v):Pb (a0::pa::a2::a3::a4::a5::Cb::bc::eb::a9::Dd::zc::a12::a::Jc::b::c::d::e::f::a20::a21::a22::a23::a24::a25::a26::g::a28::i::j::a31::k::m::o::p::q::a37::r::s::a40::t::u::w::x::y::a46::z::A::a49::B::a51::C::a53::D::F::G::H::K::a59::l) (n+60) v:=h
theorem Sc {α:Type}{a0 pa a2 a3 a4 a5 Cb bc eb a9 Dd zc a12 a Jc b c d e f a20 a21 a22 a23 a24 a25 a26 g a28 i j a31 k m o p q a37 r s a40 t u w x y a46 z A a49 B a51 C a53 D F G H K a59 v:α}{l L:List α}{n:Nat}(h:oc l n v L):oc (a0::pa::a2::a3::a4::a5::Cb::bc::eb::a9::Dd::zc::a12::a::Jc::b::c::d::e::f::a20::a21::a22::a23::a24::a25::a26::g::a28::i::j::a31::k::m::o::p::q::a37::r::s::a40::t::u::w::x::y::a46::z::A::a49::B::a51::C::a53::D::F::G::H::K::a59::l) (n+60) v (a0::pa::a2::a3::a4::a5::Cb::bc::eb::a9::Dd::zc::a12::a::Jc::b::c::d::e::f::a20::a21::a22::a23::a24::a25::a26::g::a28::i::j::a31::k::m::o::p::q::a37::r::s::a40::t::u::w::x::y::a46::z::A::a49::B::a51::C::a53::D::F::G::H::K::a59::L):=by unfold oc at *;subst h;rfl
theorem Oc {α:Type}{a0 pa a2 a3 a4 a5 Cb bc eb a9 Dd zc a12 a Jc b c d e f a20 a21 a22 a23 a24 a25 a26 g a28 i j a31 k m o p q a37 r s a40 t u w x y a46 z A a49 B a51 C a53 D F G H K a59 L M N O P Q R S T U v:α}{l:List α}{n:Nat}(h:Pb l n v):Pb (a0::pa::a2::a3::a4::a5::Cb::bc::eb::a9::Dd::zc::a12::a::Jc::b::c::d::e::f::a20::a21::a22::a23::a24::a25::a26::g::a28::i::j::a31::k::m::o::p::q::a37::r::s::a40::t::u::w::x::y::a46::z::A::a49::B::a51::C::a53::D::F::G::H::K::a59::L::M::N::O::P::Q::R::S::T::U::l) (n+70) v:=h
theorem Wf {α:Type}{a0 pa a2 a3 a4 a5 Cb bc eb a9 Dd zc a12 a Jc b c d e f a20 a21 a22 a23 a24 a25 a26 g a28 i j a31 k m o p q a37 r s a40 t u w x y a46 z A a49 B a51 C a53 D F G H K a59 L M N O P Q R S T U v:α}{l W:List α}{n:Nat}(h:oc l n v W):oc (a0::pa::a2::a3::a4::a5::Cb::bc::eb::a9::Dd::zc::a12::a::Jc::b::c::d::e::f::a20::a21::a22::a23::a24::a25::a26::g::a28::i::j::a31::k::m::o::p::q::a37::r::s::a40::t::u::w::x::y::a46::z::A::a49::B::a51::C::a53::D::F::G::H::K::a59::L::M::N::O::P::Q::R::S::T::U::l) (n+70) v (a0::pa::a2::a3::a4::a5::Cb::bc::eb::a9::Dd::zc::a12::a::Jc::b::c::d::e::f::a20::a21::a22::a23::a24::a25::a26::g::a28::i::j::a31::k::m::o::p::q::a37::r::s::a40::t::u::w::x::y::a46::z::A::a49::B::a51::C::a53::D::F::G::H::K::a59::L::M::N::O::P::Q::R::S::T::U::W):=by unfold oc at *;subst h;rfl
theorem kd {α:Type}{a0 pa a2 a3 a4 a5 Cb bc eb a9 Dd zc a12 a Jc b c d e f a20 a21 a22 a23 a24 a25 a26 g a28 i j a31 k m o p q a37 r s a40 t u w x y a46 z A a49 B a51 C a53 D F G H K a59 L M N O P Q R S T U a70 W a72 X Y a75 a76 Z gc hc v:α}{l:List α}{n:Nat}(h:Pb l n v):Pb (a0::pa::a2::a3::a4::a5::Cb::bc::eb::a9::Dd::zc::a12::a::Jc::b::c::d::e::f::a20::a21::a22::a23::a24::a25::a26::g::a28::i::j::a31::k::m::o::p::q::a37::r::s::a40::t::u::w::x::y::a46::z::A::a49::B::a51::C::a53::D::F::G::H::K::a59::L::M::N::O::P::Q::R::S::T::U::a70::W::a72::X::Y::a75::a76::Z::gc::hc::l) (n+80) v:=h
theorem Ve {α:Type}{a0 pa a2 a3 a4 a5 Cb bc eb a9 Dd zc a12 a Jc b c d e f a20 a21 a22 a23 a24 a25 a26 g a28 i j a31 k m o p q a37 r s a40 t u w x y a46 z A a49 B a51 C a53 D F G H K a59 L M N O P Q R S T U a70 W a72 X Y a75 a76 Z gc hc v:α}{l lc:List α}{n:Nat}(h:oc l n v lc):oc (a0::pa::a2::a3::a4::a5::Cb::bc::eb::a9::Dd::zc::a12::a::Jc::b::c::d::e::f::a20::a21::a22::a23::a24::a25::a26::g::a28::i::j::a31::k::m::o::p::q::a37::r::s::a40::t::u::w::x::y::a46::z::A::a49::B::a51::C::a53::D::F::G::H::K::a59::L::M::N::O::P::Q::R::S::T::U::a70::W::a72::X::Y::a75::a76::Z::gc::hc::l) (n+80) v (a0::pa::a2::a3::a4::a5::Cb::bc::eb::a9::Dd::zc::a12::a::Jc::b::c::d::e::f::a20::a21::a22::a23::a24::a25::a26::g::a28::i::j::a31::k::m::o::p::q::a37::r::s::a40::t::u::w::x::y::a46::z::A::a49::B::a51::C::a53::D::F::G::H::K::a59::L::M::N::O::P::Q::R::S::T::U::a70::W::a72::X::Y::a75::a76::Z::gc::hc::lc):=by unfold oc at *;subst h;rfl
theorem kf {α:Type}{a0 pa a2 a3 a4 a5 Cb bc eb a9 Dd zc a12 a Jc b c d e f a20 a21 a22 a23 a24 a25 a26 g a28 i j a31 k m o p q a37 r s a40 t u w x y a46 z A a49 B a51 C a53 D F G H K a59 L M N O P Q R S T U a70 W a72 X Y a75 a76 Z gc hc a80 lc rc fd id a85 md a87 rd td v:α}{l:List α}{n:Nat}(h:Pb l n v):Pb (a0::pa::a2::a3::a4::a5::Cb::bc::eb::a9::Dd::zc::a12::a::Jc::b::c::d::e::f::a20::a21::a22::a23::a24::a25::a26::g::a28::i::j::a31::k::m::o::p::q::a37::r::s::a40::t::u::w::x::y::a46::z::A::a49::B::a51::C::a53::D::F::G::H::K::a59::L::M::N::O::P::Q::R::S::T::U::a70::W::a72::X::Y::a75::a76::Z::gc::hc::a80::lc::rc::fd::id::a85::md::a87::rd::td::l) (n+90) v:=h
theorem Oi {α:Type}{a0 pa a2 a3 a4 a5 Cb bc eb a9 Dd zc a12 a Jc b c d e f a20 a21 a22 a23 a24 a25 a26 g a28 i j a31 k m o p q a37 r s a40 t u w x y a46 z A a49 B a51 C a53 D F G H K a59 L M N O P Q R S T U a70 W a72 X Y a75 a76 Z gc hc a80 lc rc fd id a85 md a87 rd td v:α}{l wd:List α}{n:Nat}(h:oc l n v wd):oc (a0::pa::a2::a3::a4::a5::Cb::bc::eb::a9::Dd::zc::a12::a::Jc::b::c::d::e::f::a20::a21::a22::a23::a24::a25::a26::g::a28::i::j::a31::k::m::o::p::q::a37::r::s::a40::t::u::w::x::y::a46::z::A::a49::B::a51::C::a53::D::F::G::H::K::a59::L::M::N::O::P::Q::R::S::T::U::a70::W::a72::X::Y::a75::a76::Z::gc::hc::a80::lc::rc::fd::id::a85::md::a87::rd::td::l) (n+90) v (a0::pa::a2::a3::a4::a5::Cb::bc::eb::a9::Dd::zc::a12::a::Jc::b::c::d::e::f::a20::a21::a22::a23::a24::a25::a26::g::a28::i::j::a31::k::m::o::p::q::a37::r::s::a40::t::u::w::x::y::a46::z::A::a49::B::a51::C::a53::D::F::G::H::K::a59::L::M::N::O::P::Q::R::S::T::U::a70::W::a72::X::Y::a75::a76::Z::gc::hc::a80::lc::rc::fd::id::a85::md::a87::rd::td::wd):=by unfold oc at *;subst h;rfl
theorem ab {α:Type}{a0 pa a2 a3 a4 a5 Cb bc eb a9 Dd zc a12 a Jc b c d e f a20 a21 a22 a23 a24 a25 a26 g a28 i j a31 k m o p q a37 r s a40 t u w x y a46 z A a49 B a51 C a53 D F G H K a59 L M N O P Q R S T U a70 W a72 X Y a75 a76 Z gc hc a80 lc rc fd id a85 md a87 rd td wd a91 Fd a93 Id be ce ge he le v:α}{l:List α}{n:Nat}(h:Pb l n v):Pb (a0::pa::a2::a3::a4::a5::Cb::bc::eb::a9::Dd::zc::a12::a::Jc::b::c::d::e::f::a20::a21::a22::a23::a24::a25::a26::g::a28::i::j::a31::k::m::o::p::q::a37::r::s::a40::t::u::w::x::y::a46::z::A::a49::B::a51::C::a53::D::F::G::H::K::a59::L::M::N::O::P::Q::R::S::T::U::a70::W::a72::X::Y::a75::a76::Z::gc::hc::a80::lc::rc::fd::id::a85::md::a87::rd::td::wd::a91::Fd::a93::Id::be::ce::ge::he::le::l) (n+100) v:=h
theorem yc {α:Type}{a0 pa a2 a3 a4 a5 Cb bc eb a9 Dd zc a12 a Jc b c d e f a20 a21 a22 a23 a24 a25 a26 g a28 i j a31 k m o p q a37 r s a40 t u w x y a46 z A a49 B a51 C a53 D F G H K a59 L M N O P Q R S T U a70 W a72 X Y a75 a76 Z gc hc a80 lc rc fd id a85 md a87 rd td wd a91 Fd a93 Id be ce ge he le v:α}{l ne:List α}{n:Nat}(h:oc l n v ne):oc (a0::pa::a2::a3::a4::a5::Cb::bc::eb::a9::Dd::zc::a12::a::Jc::b::c::d::e::f::a20::a21::a22::a23::a24::a25::a26::g::a28::i::j::a31::k::m::o::p::q::a37::r::s::a40::t::u::w::x::y::a46::z::A::a49::B::a51::C::a53::D::F::G::H::K::a59::L::M::N::O::P::Q::R::S::T::U::a70::W::a72::X::Y::a75::a76::Z::gc::hc::a80::lc::rc::fd::id::a85::md::a87::rd::td::wd::a91::Fd::a93::Id::be::ce::ge::he::le::l) (n+100) v (a0::pa::a2::a3::a4::a5::Cb::bc::eb::a9::Dd::zc::a12::a::Jc::b::c::d::e::f::a20::a21::a22::a23::a24::a25::a26::g::a28::i::j::a31::k::m::o::p::q::a37::r::s::a40::t::u::w::x::y::a46::z::A::a49::B::a51::C::a53::D::F::G::H::K::a59::L::M::N::O::P::Q::R::S::T::U::a70::W::a72::X::Y::a75::a76::Z::gc::hc::a80::lc::rc::fd::id::a85::md::a87::rd::td::wd::a91::Fd::a93::Id::be::ce::ge::he::le::ne):=by unfold oc at *;subst h;rfl
end Go.yb
namespace Go.yb
open Go.RowKit
section
variable {P:Program}{Q:Exit→Act→World→Prop}{K:List Value→List Deferred→World→Prop}{fr sa:List Value}{ds:List Deferred}{w:World}
variable {dst:Option Tmp}{ty:TypeId}{pos:String}{after:Array Edge}{g:Option (Nat×Bool)}
variable {S Ad:Nat→Prop}{w0:World}{rs rs':List kb}{A:World→Prop}
variable {T:TypeId}
inductive Uj:TypeDesc→Value→Prop where
 | str (l:List UInt8):Uj .string (yb.S l)
 | int (k:IntKind) (n:Int):Uj (.int k) (.int k n)
def Nj:Value→Value→Bool
 | .string a,.string b=>decide (a.data.toList=b.data.toList)
 | .int _ a,.int _ b=>decide (a=b)
 | _,_=>false
def jl (es:List MapEntry) (k:Value):Option (Nat×Value):=(es.zipIdx.find? fun e=>Nj k e.1.key).map fun e=>(e.2,e.1.val)
theorem VE {d:TypeDesc}{k:Value}(a:Uj d k):∀ (es:List MapEntry) (i:Nat),(∀ e ∈ es,Uj d e.key)→Instr.findNow d k es i=some (((es.zipIdx i).find? fun e=>Nj k e.1.key).map fun e=>(e.2,e.1.val)):=by
 intro es
 induction es with
 | nil=>intro i _; simp [Instr.findNow]
 | cons e es b =>
  intro i h;have he:=h e (by simp);have c:=b (i+1) fun x f=>h x (by simp [f]);simp only [Instr.findNow,List.zipIdx_cons,List.find?_cons];have hs:Instr.sameNow d k e.key=some (Nj k e.key):=by
   generalize e.key=g at he;cases a with
   | str l =>
    cases he with
    | str j =>
     simp only [Instr.sameNow,yb.S,Nj];congr 1;rw [Bool.eq_iff_iff,My];simp
   | int kk n =>
    cases he with
    | int _ m =>
     simp only [Instr.sameNow,if_true,Nj];congr 1
  rw [hs];cases o:Nj k e.key with
  | true=>simp
  | false=>exact c
theorem run_findKey {Qe:TypeId}{d:TypeDesc}{k:Value}{es:List MapEntry}(a:P.underlying Qe=some d) (b:Uj d k) (he:∀ e ∈ es,Uj d e.key):(Instr.findKey Qe k es).run P w=.ok (jl es k) w:=by
 unfold Instr.findKey jl;simp only [Sem.run_bind,run_underlying a,Result.andThen_ok,VE b es 0 he];rfl
theorem run_checkKey {Qe:TypeId}{d:TypeDesc}{k:Value}{b:Bool}(a:P.underlying Qe=some d) (c:Uj d k):(Instr.checkKey b 10000 Qe k).run P w=.ok () w:=by
 show (Instr.checkKey b (9999+1) Qe k).run P w=_;unfold Instr.checkKey;simp only [Sem.run_bind,run_underlying a,Result.andThen_ok];cases c<;>rfl
theorem Gl (a:Sep S Ad w0 w rs A) (h:∀ b w',w.heap.size≤b→Sep S Ad w0 w' (.map b [] 0::rs) A→bh fr dst (.map (some b)) fun sa=>K sa ds w'):Gd P (Oper.mk dst (.makeMap T none) ty pos after g) fr ds w K Q:=by
 obtain ⟨sa,Na⟩:=Ei fr dst (.map (some w.heap.size));refine Th (v:=.map (some w.heap.size)) (w':=w.alloc (.map #[] 0)) ?_ Na (h _ _ (Nat.le_refl _) (a.alloc rfl (heap_alloc_new w _)) sa Na);simp [execOp,Instr.makeMap]
def dk (es:List MapEntry) (k z:Value):Value:=(jl es k).elim z (·.2)
def No (es:List MapEntry) (k:Value):Bool:=(jl es k).isSome
def putAt (es:List MapEntry) (c:Nat) (k v:Value):List MapEntry:=match jl es k with
 | some (i,_)=>es.modify i fun e=>{ e with key:=k,val:=v }
 | none=>es++[{ key:=k,val:=v,born:=c }]
def cq (es:List MapEntry) (c:Nat) (k:Value):Nat:=match jl es k with
 | some _=>c
 | none=>c+1
theorem WE {es:List MapEntry}{k v:Value}{i:Nat}(h:jl es k=some (i,v)):∃ e,es[i]?=some e∧Nj k e.key=true∧e.val=v:=by
 unfold jl at h;cases a:es.zipIdx.find? fun e=>Nj k e.1.key with
 | none=>rw [a] at h; cases h
 | some x =>
  rw [a] at h;simp only [Option.map_some,Option.some.injEq,Prod.mk.injEq] at h;obtain ⟨rfl,rfl⟩:=h;have b:=List.find?_some (p:=fun e:MapEntry×Nat=>Nj k e.1.key) a;have c:=List.mem_of_find?_eq_some a;exact ⟨x.1,by have:=List.mem_zipIdx_iff_getElem?.1 c;simpa using this,b,rfl⟩
theorem FF {d:TypeDesc}{k a:Value}(c:Uj d k) (b:Uj d a) (h:Nj k a=true):Instr.sameBits 10000 a k=true:=by
 cases c with
 | str l =>
  cases b with
  | str e =>
   simp [Nj,yb.S] at h;subst h;simp only [Instr.sameBits,yb.S];exact (My _ _).2 rfl
 | int kk n =>
  cases b with
  | int _ f =>
   simp [Nj] at h;subst h;simp [Instr.sameBits]
theorem oJ {x y z:Operand}{Qe aa:TypeId}{d:TypeDesc}{Of v:Value}{b c k:Nat}{es:List MapEntry}(m:P.underlying T=some (.map Qe aa)) (n:P.underlying Qe=some d) (o:Ya fr x (.map (some b))) (p:Ya fr y Of) (a:Uj d Of) (q:Ya fr z v)
  (r:Sep S Ad w0 w rs A) (s:Pb rs k (.map b es c)) (he:∀ e ∈ es,Uj d e.key)
  (Na:Xe fr dst undef sa) (h:∀ w' rs',oc rs k (.map b (putAt es c Of v) (cq es c Of)) rs'→Sep S Ad w0 w' rs' A→K sa ds w'):Gd P (Oper.mk dst (.mapUpdate T x y z) ty pos after g) fr ds w K Q:=by
 have f:w.heap[b]?=some (.map ⟨es⟩ c):=r.get s;have D:b<w.heap.size:=(Array.getElem?_eq_some_iff.1 f).1
 let w':World:={ w with heap:=w.heap.setIfInBounds b (.map ⟨putAt es c Of v⟩ (cq es c Of)) }
 have F:Eh (fun k=>k≠b) w w':=⟨rfl,rfl,rfl,by simp [w'],fun j _ G=>by simp [w',Array.getElem?_setIfInBounds,Ne.symm G]⟩;have H:=r.put (b:=b) (r':=.map b (putAt es c Of v) (cq es c Of)) (w':=w') s rfl rfl rfl (by show w'.heap[b]?=_;simp [w',D]) F;have t:=run_checkKey (P:=P) (w:=w) (b:=false) n a;have B:=run_findKey (P:=P) (w:=w) n a he;refine mA (w':=w') ?_ Na (h w' _ rfl H);cases l:jl es Of with
 | none=>simp [execOp,o ds,p ds,q ds,Instr.mapUpdate,run_underlying m,getObj,setObj,Sem.run,f,Result.andThen,t,B,l,w',putAt,cq]
 | some e =>
  obtain ⟨i,u⟩:=e;obtain ⟨e,C,L,-⟩:=WE l;have M:=FF a (he e (List.mem_of_getElem? C)) L;simp [execOp,o ds,p ds,q ds,Instr.mapUpdate,run_underlying m,getObj,setObj,Sem.run,f,Result.andThen,t,B,l,C,Instr.keyThatStays,M,w',putAt,cq]
theorem wG {x:Operand}{Qe aa:TypeId}{m c k:Nat}{es:List MapEntry}(d:P.underlying T=some (.map Qe aa)) (e:Ya fr x (.map (some m))) (a:Sep S Ad w0 w rs A) (f:Pb rs k (.map m es c))
  (h:∀ b w',w.heap.size≤b→Sep S Ad w0 w' (.Xk b m c [] c::rs) A→bh fr dst (.pointer (some ⟨b,0,none⟩)) fun sa=>K sa ds w'):Gd P (Oper.mk dst (.range T x) ty pos after g) fr ds w K Q:=by
 have i:w.heap[m]?=some (.map ⟨es⟩ c):=a.get f;obtain ⟨sa,Na⟩:=Ei fr dst (.pointer (some ⟨w.heap.size,0,none⟩));refine Th (v:=.pointer (some ⟨w.heap.size,0,none⟩)) (w':=w.alloc (.mapIter (some m) c #[] c)) ?_ Na (h _ _ (Nat.le_refl _) (a.alloc rfl (heap_alloc_new w _)) sa Na);simp [execOp,e ds,Instr.range,run_underlying d,getObj,Sem.run,i,Result.andThen]
end
end Go.yb
namespace Go.kc
open Go.yb Go.RowKit
section
variable {P:Program}{Q:Exit→Act→World→Prop}{K:List Value→List Deferred→World→Prop}{fr sa:List Value}{ds:List Deferred}{w:World}
variable {dst:Option Tmp}{ty:TypeId}{pos:String}{after:Array Edge}{g:Option (Nat×Bool)}
variable {w0:World}{rs rs':List kb}{μ I:M}
variable {T:TypeId}{d:TypeDesc}{Bf:Bool}{sd:List Value}{n m:Nat}
theorem LH {x y:Operand}{Qe aa:TypeId}{d:TypeDesc}{Of z:Value}{b c:Nat}{es:List MapEntry}(a:P.underlying T=some (.map Qe aa)) (f:P.underlying Qe=some d) (i:Ya fr x (.map (some b))) (j:Ya fr y Of) (k:Uj d Of)
  (p:∀ w,(zeroValue aa).run P w=.ok z w) (l:w.heap[b]?=some (.map ⟨es⟩ c)) (he:∀ e ∈ es,Uj d e.key)
  (q:Xe fr dst (dk es Of z) sa) (h:K sa ds w):Gd P (Oper.mk dst (.lookup T x y false) ty pos after g) fr ds w K Q:=by
 refine Th (w':=w) ?_ q h;have m:=run_checkKey (w:=w) (b:=es.isEmpty) f k;have n:=run_findKey (w:=w) f k he;cases o:jl es Of with
 | none=>simp [execOp,i ds,j ds,Instr.lookup,run_underlying a,getObj,Sem.run,l,Result.andThen,m,n,o,p w,dk]
 | some e=>simp [execOp,i ds,j ds,Instr.lookup,run_underlying a,getObj,Sem.run,l,Result.andThen,m,n,o,dk]
theorem Py {x y:Operand}{Qe aa:TypeId}{d:TypeDesc}{Of z:Value}{b c:Nat}{es:List MapEntry}(a:P.underlying T=some (.map Qe aa)) (f:P.underlying Qe=some d) (i:Ya fr x (.map (some b))) (j:Ya fr y Of) (k:Uj d Of)
  (p:∀ w,(zeroValue aa).run P w=.ok z w) (l:w.heap[b]?=some (.map ⟨es⟩ c)) (he:∀ e ∈ es,Uj d e.key)
  (q:Xe fr dst (.tuple #[dk es Of z,.bool (No es Of)]) sa) (h:K sa ds w):Gd P (Oper.mk dst (.lookup T x y true) ty pos after g) fr ds w K Q:=by
 refine Th (w':=w) ?_ q h;have m:=run_checkKey (w:=w) (b:=es.isEmpty) f k;have n:=run_findKey (w:=w) f k he;cases o:jl es Of with
 | none=>simp [execOp,i ds,j ds,Instr.lookup,run_underlying a,getObj,Sem.run,l,Result.andThen,m,n,o,p w,dk,No]
 | some e=>simp [execOp,i ds,j ds,Instr.lookup,run_underlying a,getObj,Sem.run,l,Result.andThen,m,n,o,dk,No]
class ob (κ:Type) [DecidableEq κ] where
 key:κ→Value
 bm:TypeDesc
 Qe:∀ k,Uj bm (key k)
 eq:∀ a b,Nj (key a) (key b)=decide (a=b)
instance:ob (List UInt8) where
 key:=S
 bm:=.string
 Qe:=.str
 eq a b:=by simp [Nj,S]
instance:ob Int where
 key n:=.int .i64 n
 bm:=.int .i64
 Qe:=.int .i64
 eq a b:=by simp [Nj]
class Rh (β:Type) where
 Fj:M→Value→β→Prop
 up:∀ {μ I:M}{v:Value}{x:β},da μ I→Fj μ v x→Fj I v x
instance:Rh Int where
 Fj _ v x:=v=.int .i64 x
 up _ h:=h
def pq {α:Type}[Ha α] (μ:M) (v:Value) (x:α):Prop:=∃ cs,v=.agg ⟨cs⟩∧Ha.cs μ cs x
theorem pq.up {α:Type}[Ha α]{v:Value}{x:α}(l:da μ I) (h:pq μ v x):pq I v x:=by
 obtain ⟨cs,a,b⟩:=h;exact ⟨cs,a,Ha.up l b⟩
def Yn {α:Type}[Ha α] (μ:M) (v:Value) (x:α):Prop:=∃ b o cs,v=.pointer (some ⟨b,o,none⟩)∧Ec μ b o cs∧Ha.cs μ cs x
theorem Yn.up {α:Type}[Ha α]{v:Value}{x:α}(l:da μ I) (h:Yn μ v x):Yn I v x:=by
 obtain ⟨b,o,cs,a,c,d⟩:=h;exact ⟨b,o,cs,a,c.up l,Ha.up l d⟩
def Re {α:Type}[Ha α] (μ:M) (v:Value):Option α→Prop
 | none=>v=.pointer none
 | some x=>Yn μ v x
theorem Re.up {α:Type}[Ha α]{v:Value}{x:Option α}(h:Re μ v x) (l:da μ I):Re I v x:=by
 cases x with
 | none=>exact h
 | some x=>exact Yn.up l h
theorem Re.xe {α:Type}[Ha α]{v:Value}{x:Option α}(h:Re μ v x):xe v=true:=by
 cases x with
 | none=>rw [show v=.pointer none from h]; rfl
 | some x=>obtain ⟨b,o,cs,rfl,-⟩:=h; rfl
theorem Re.of {α:Type}[Ha α]{b o:Nat}{cs:List Value}{x:α}(h:Ec μ b o cs) (k:Ha.cs μ cs x):Re μ (.pointer (some ⟨b,o,none⟩)) (some x):=⟨b,o,cs,rfl,h,k⟩
theorem Re.get {α:Type}[Ha α]{v:Value}{o:Option α}{x:α}(h:Re μ v o) (g:o=some x):∃ b o cs,v=.pointer (some ⟨b,o,none⟩)∧Ec μ b o cs∧Ha.cs μ cs x:=by
 subst g;exact h
instance {α:Type}[Ha α]:Ha (Option α) where
 sz:=1
 pos:=by decide
 cs μ l x:=∃ v,l=[v]∧Re μ v x
 Dg h:=by obtain ⟨v,rfl,-⟩:=h;rfl
 up l h:=by obtain ⟨v,a,b⟩:=h;exact ⟨v,a,b.up l⟩
 pg h:=by obtain ⟨v,rfl,h⟩:=h;simp [h.xe]
def Nc {κ β:Type}[DecidableEq κ]:List (κ×β)→κ→Option β
 | [],_=>none
 | (a,b)::m,k=>if a=k then some b else Nc m k
def qe {κ β:Type}[DecidableEq κ]:List (κ×β)→κ→β→List (κ×β)
 | [],k,x=>[(k,x)]
 | (a,b)::m,k,x=>if a=k then (k,x)::m else (a,b)::qe m k x
def Eg {κ β:Type}[DecidableEq κ] [ob κ] [Rh β] (μ:M):List MapEntry→List (κ×β)→Prop
 | [],m=>m=[]
 | e::es,m=>∃ k x t,m=(k,x)::t∧e.key=ob.key k∧Rh.Fj μ e.val x∧Eg μ es t
structure lg {κ β:Type}[DecidableEq κ] [ob κ] [Rh β] (μ:M) (es:List MapEntry) (c:Nat) (m:List (κ×β)):Prop where
 Of:Eg μ es m
 lt:∀ e ∈ es,e.born<c
 inc:es.Pairwise fun a b=>a.born<b.born
variable {κ β:Type}[DecidableEq κ] [ob κ] [Rh β]
theorem Eg.up (l:da μ I):∀ {es:List MapEntry}{m:List (κ×β)},Eg μ es m→Eg I es m
 | [],m,h=>by rw [Eg] at h ⊢; exact h
 | e::es,m,h=>by
  rw [Eg] at h ⊢;obtain ⟨k,x,t,a,b,c,d⟩:=h;exact ⟨k,x,t,a,b,Rh.up l c,Eg.up l d⟩
theorem lg.up {es:List MapEntry}{c:Nat}{m:List (κ×β)}(h:lg μ es c m) (l:da μ I):lg I es c m:=⟨h.Of.up l,h.lt,h.inc⟩
theorem Eg.keys:∀ {es:List MapEntry}{m:List (κ×β)},Eg μ es m→∀ e ∈ es,Uj (ob.bm (κ:=κ)) e.key
 | [],m,_,e,he=>by cases he
 | e::es,m,h,a,he=>by
  rw [Eg] at h;obtain ⟨k,x,t,d,b,f,c⟩:=h;rcases List.mem_cons.1 he with rfl | he
  ·rw [b];exact ob.Qe k
  ·exact Eg.keys c a he
def nk (Of:Value):List MapEntry→Option (Nat×Value)
 | []=>none
 | e::es=>if Nj Of e.key then some (0,e.val) else (nk Of es).map fun p=>(p.1+1,p.2)
theorem kC (Of:Value):∀ (es:List MapEntry) (i:Nat),(((es.zipIdx i).find? fun e=>Nj Of e.1.key).map fun e=>(e.2,e.1.val))=(nk Of es).map fun p=>(p.1+i,p.2)
 | [],i=>rfl
 | e::es,i=>by
  rw [List.zipIdx_cons,List.find?_cons,nk];cases h:Nj Of e.key with
  | true=>simp
  | false =>
   simp only [Bool.false_eq_true,if_false];rw [kC Of es (i+1),Option.map_map];congr 1;funext p;simp;omega
theorem Zs (es:List MapEntry) (Of:Value):jl es Of=nk Of es:=by
 unfold jl;rw [kC];cases nk Of es<;>simp
theorem Eg.look:∀ {es:List MapEntry}{m:List (κ×β)},Eg μ es m→∀ k:κ,(match nk (ob.key k) es with | none=>Nc m k=none | some p=>∃ x,Nc m k=some x∧Rh.Fj μ p.2 x)
 | [],m,h,k=>by rw [Eg] at h; subst h; rfl
 | e::es,m,h,k=>by
  rw [Eg] at h;obtain ⟨d,x,t,rfl,f,g,i⟩:=h;rw [nk,Nc,f,ob.eq];have a:=Eg.look i k;by_cases b:k=d
  ·subst b;simp;exact g
  ·rw [if_neg (by simpa using b),if_neg (fun e=>b e.symm)];cases c:nk (ob.key k) es with
   | none=>rw [c] at a; exact a
   | some p=>rw [c] at a; exact a
theorem Eg.get {es:List MapEntry}{m:List (κ×β)}(h:Eg μ es m) (k:κ){z:Value}{zx:β}(b:Rh.Fj μ z zx):Rh.Fj μ (dk es (ob.key k) z) ((Nc m k).getD zx):=by
 have:=h.look k;unfold dk;rw [Zs];cases a:nk (ob.key k) es with
 | none=>rw [a] at this; simp only at this; rw [this]; exact b
 | some p=>rw [a] at this; obtain ⟨x,c,d⟩:=this; rw [c]; exact d
theorem Eg.has {es:List MapEntry}{m:List (κ×β)}(h:Eg μ es m) (k:κ):No es (ob.key k)=(Nc m k).isSome:=by
 have:=h.look k;unfold No;rw [Zs];cases a:nk (ob.key k) es with
 | none=>rw [a] at this; simp only at this; rw [this]; rfl
 | some p=>rw [a] at this; obtain ⟨x,b,c⟩:=this; rw [b]; rfl
theorem Eg.put:∀ {es:List MapEntry}{m:List (κ×β)},Eg μ es m→∀ (k:κ){v:Value}{x:β},Rh.Fj μ v x→∀ c,Eg μ (match nk (ob.key k) es with | some (i,_)=>es.modify i fun e=>{ e with key:=ob.key k,val:=v } | none=>es++[{ key:=ob.key k,val:=v,born:=c }]) (qe m k x)
 | [],m,h,k,v,x,Wa,c=>by
  rw [Eg] at h;subst h;exact ⟨k,x,[],rfl,rfl,Wa,rfl⟩
 | e::es,m,h,k,v,x,Wa,c=>by
  rw [Eg] at h;obtain ⟨b,g,t,rfl,d,j,l⟩:=h;rw [nk,qe,d,ob.eq];have a:=Eg.put l k Wa c;by_cases f:k=b
  ·subst f;simp;exact ⟨k,x,t,rfl,rfl,Wa,l⟩
  ·rw [if_neg (by simpa using f),if_neg (fun e=>f e.symm)];cases n:nk (ob.key k) es with
   | none=>rw [n] at a; exact ⟨b,g,_,rfl,d,j,a⟩
   | some p=>rw [n] at a; exact ⟨b,g,_,rfl,d,j,a⟩
theorem lg.put {es:List MapEntry}{c:Nat}{m:List (κ×β)}(h:lg μ es c m) (k:κ){v:Value}{x:β}(Wa:Rh.Fj μ v x):lg μ (putAt es c (ob.key k) v) (cq es c (ob.key k)) (qe m k x):=by
 have d:=h.Of.put k Wa c;have qa:∀ i,(es.modify i fun e=>{ e with key:=ob.key k,val:=v }).map (·.born)=es.map (·.born):=by
  intro i;refine List.ext_getElem (by simp) fun j w y=>?_;simp only [List.getElem_map,List.getElem_modify];split<;>rfl
 have o:∀ l:List MapEntry,l.map (·.born)=es.map (·.born)→∀ e ∈ l,e.born<c:=fun l g e he=>by
  have hm:e.born ∈ es.map (·.born):=g ▸ List.mem_map_of_mem he;obtain ⟨q,r,f⟩:=List.mem_map.1 hm;rw [← f];exact h.lt q r
 have s:∀ l:List MapEntry,l.map (·.born)=es.map (·.born)→l.Pairwise fun a b=>a.born<b.born:=fun l g=>by
  have:(es.map (·.born)).Pairwise (·<·):=List.pairwise_map.2 h.inc;rw [← g] at this;exact List.pairwise_map.1 this
 unfold putAt cq;rw [Zs];cases n:nk (ob.key k) es with
 | some p =>
  obtain ⟨i,u⟩:=p;rw [n] at d;exact ⟨d,o _ (qa i),s _ (qa i)⟩
 | none =>
  rw [n] at d;refine ⟨d,fun e he=>?_,?_⟩
  ·rcases List.mem_append.1 he with he | he
   ·exact Nat.lt_succ_of_lt (h.lt e he)
   ·simp at he;subst he;exact Nat.lt_succ_self _
  ·rw [List.pairwise_append];refine ⟨h.inc,by simp,fun a t b f=>?_⟩;simp at f;subst f;exact h.lt a t
theorem lg.nil {c:Nat}:lg (κ:=κ) (β:=β) μ [] c []:=⟨rfl,by simp,by simp⟩
def sk (μ:M) (b:Nat) (m:List (κ×β)):Prop:=∃ es c,(∀ w,μ w→w.heap[b]?=some (.map ⟨es⟩ c))∧lg μ es c m
theorem sk.up {b:Nat}{m:List (κ×β)}(h:sk μ b m) (l:da μ I):sk I b m:=by
 obtain ⟨es,c,a,d⟩:=h;exact ⟨es,c,fun w hw=>a w (l w hw),d.up l⟩
theorem _root_.Go.yb.Sep.Cr {b c:Nat}{es:List MapEntry}{m:List (κ×β)}(h:ha μ w0 w (.map b es c::rs)) (hm:lg μ es c m):∃ I,da μ I∧sk I b m∧ha I w0 w rs :=
 ⟨_,fun _ hw=>hw.1,⟨es,c,fun _ hw=>hw.2,hm.up fun _ hw=>hw.1⟩,Sep.Cx (B:=fun w=>w.heap[b]?=some (.map ⟨es⟩ c)) h fun _ hw=>hw⟩
theorem MH {x y:Operand}{Qe aa:TypeId}{z:Value}{b c:Nat}{es:List MapEntry}{m:List (κ×β)}{k:κ}{zx:β}(a:P.underlying T=some (.map Qe aa)) (d:P.underlying Qe=some (ob.bm (κ:=κ))) (e:Ya fr x (.map (some b))) (f:Ya fr y (ob.key k))
  (i:∀ w,(zeroValue aa).run P w=.ok z w) (j:Rh.Fj μ z zx) (l:w.heap[b]?=some (.map ⟨es⟩ c)) (he:lg μ es c m)
  (h:∀ v,Rh.Fj μ v ((Nc m k).getD zx)→bh fr dst (.tuple #[v,.bool (Nc m k).isSome]) fun sa=>K sa ds w):Gd P (Oper.mk dst (.lookup T x y true) ty pos after g) fr ds w K Q:=by
 obtain ⟨sa,Na⟩:=Ei fr dst (.tuple #[dk es (ob.key k) z,.bool (No es (ob.key k))]);refine Py a d e f (ob.Qe k) i l he.Of.keys Na ?_;rw [he.Of.has k] at Na;exact h _ (he.Of.get k j) sa Na
theorem tw {x y:Operand}{Qe aa:TypeId}{z:Value}{b c:Nat}{es:List MapEntry}{m:List (κ×β)}{k:κ}{zx:β}(a:P.underlying T=some (.map Qe aa)) (d:P.underlying Qe=some (ob.bm (κ:=κ))) (e:Ya fr x (.map (some b))) (f:Ya fr y (ob.key k))
  (i:∀ w,(zeroValue aa).run P w=.ok z w) (j:Rh.Fj μ z zx) (l:w.heap[b]?=some (.map ⟨es⟩ c)) (he:lg μ es c m)
  (h:∀ v,Rh.Fj μ v ((Nc m k).getD zx)→bh fr dst v fun sa=>K sa ds w):Gd P (Oper.mk dst (.lookup T x y false) ty pos after g) fr ds w K Q:=by
 obtain ⟨sa,Na⟩:=Ei fr dst (dk es (ob.key k) z);refine LH a d e f (ob.Qe k) i l he.Of.keys Na ?_;exact h _ (he.Of.get k j) sa Na
theorem Eg.UL {α:Type}[Ha α] [Rh α] (hrv:∀ (v:Value) (x:α),Rh.Fj μ v x→Yn μ v x){es:List MapEntry}{m:List (κ×α)}(h:Eg μ es m) (k:κ):Re μ (dk es (ob.key k) (.pointer none)) (Nc m k):=by
 have:=h.look k;unfold dk;rw [Zs];cases a:nk (ob.key k) es with
 | none=>rw [a] at this; simp only at this; rw [this]; rfl
 | some p=>rw [a] at this; obtain ⟨x,b,c⟩:=this; rw [b]; exact hrv _ _ c
theorem QB {α:Type}[Ha α] [Rh α] (hrv:∀ (v:Value) (x:α),Rh.Fj μ v x→Yn μ v x){x y:Operand}{Qe aa:TypeId}{b c:Nat}{es:List MapEntry}{m:List (κ×α)}{k:κ}(a:P.underlying T=some (.map Qe aa)) (d:P.underlying Qe=some (ob.bm (κ:=κ))) (e:Ya fr x (.map (some b))) (f:Ya fr y (ob.key k))
  (i:∀ w,(zeroValue aa).run P w=.ok (.pointer none) w) (j:w.heap[b]?=some (.map ⟨es⟩ c)) (he:lg μ es c m)
  (h:∀ v,Re μ v (Nc m k)→bh fr dst (.tuple #[v,.bool (Nc m k).isSome]) fun sa=>K sa ds w):Gd P (Oper.mk dst (.lookup T x y true) ty pos after g) fr ds w K Q:=by
 obtain ⟨sa,Na⟩:=Ei fr dst (.tuple #[dk es (ob.key k) (.pointer none),.bool (No es (ob.key k))]);refine Py a d e f (ob.Qe k) i j he.Of.keys Na ?_;rw [he.Of.has k] at Na;exact h _ (he.Of.UL hrv k) sa Na
theorem cx {aa:TypeId}{z:Value}(h:(P.info? aa).map (fun i=>i.zero)=some (some z)):∀ w,(zeroValue aa).run P w=.ok z w:=fun w=>by
 cases Ua:P.info? aa with
 | none=>rw [Ua] at h; cases h
 | some i =>
  rw [Ua] at h;simp only [Option.map_some,Option.some.injEq] at h;simp [zeroValue,typeInfo,Ua,h]
theorem uw {x y z:Operand}{Qe aa:TypeId}{v:Value}{b c k:Nat}{es:List MapEntry}{kk:κ}{m:List (κ×β)}{xx:β}(d:P.underlying T=some (.map Qe aa)) (e:P.underlying Qe=some (ob.bm (κ:=κ))) (f:Ya fr x (.map (some b))) (i:Ya fr y (ob.key kk)) (j:Ya fr z v) (Wa:Rh.Fj μ v xx)
  (l:ha μ w0 w rs) (n:Pb rs k (.map b es c)) (he:lg μ es c m)
  (Na:Xe fr dst undef sa) (h:∀ a c' w' rs',lg μ a c' (qe m kk xx)→oc rs k (.map b a c') rs'→ha μ w0 w' rs'→K sa ds w'):Gd P (Oper.mk dst (.mapUpdate T x y z) ty pos after g) fr ds w K Q :=
 oJ d e f i (ob.Qe kk) j l n he.Of.keys Na fun w' rs'=>h _ _ w' rs' (he.put kk Wa)
theorem vk {x y z:Operand}{Qe aa:TypeId}{v:Value}{b c k:Nat}{es:List MapEntry}{kk:κ}{m:List (κ×β)}{xx:β}(d:P.underlying T=some (.map Qe aa)) (e:P.underlying Qe=some (ob.bm (κ:=κ))) (f:Ya fr x (.map (some b))) (i:Ya fr y (ob.key kk)) (j:Ya fr z v) (Wa:Rh.Fj μ v xx)
  (l:ha μ w0 w rs) (n:Pb rs k (.map b es c)) (he:lg μ es c m)
  (Na:Xe fr dst undef sa) (h:∀ a c' w' rs',lg μ a c' (qe m kk xx)→oc rs k (.map b a c') rs'→ha μ w0 w' rs'→K sa ds w'):Gd P (Oper.mk dst (.insert T x y z) ty pos after g) fr ds w K Q :=
 ⟨fun o p=>(uw (dst:=dst) (ty:=ty) (pos:=pos) (after:=after) (g:=g) d e f i j Wa l n he Na h).out o p⟩
end
end Go.kc
namespace Go.yb
abbrev Ug (m:List ob):List ob:=.k::m
abbrev Sd (s:Nat) (m:List ob):List ob:=.o s::m
theorem me {m:List ob}{a0:Value}{l a:List Value}(h:Be m l a):Be (Ug m) (a0::l) (a0::a):=(.k h)
theorem gb {m:List ob}{s:Nat}{a0 b:Value}{l a:List Value}(h:Be m l a):Be (Sd s m) (a0::l) (b::a):=(.o h)
theorem jh {t:Nat→Value}{m:List ob}{a0:Value}{l a:List Value}(h:Je t m l a):Je t (Ug m) (a0::l) (a0::a):=(mk h)
theorem Vd {t:Nat→Value}{m:List ob}{s:Nat}{a0:Value}{l a:List Value}(h:Je t m l a):Je t (Sd s m) (a0::l) (t s::a):=(Zb h)
abbrev lf (m:List ob):List ob:=.k::.k::m
abbrev Xf (s:Nat) (m:List ob):List ob:=.o s::.o (s+1)::m
theorem Tb {m:List ob}{a0 pa:Value}{l a:List Value}(h:Be m l a):Be (lf m) (a0::pa::l) (a0::pa::a):=(.k (.k h))
theorem ad {m:List ob}{s:Nat}{a0 pa b V:Value}{l a:List Value}(h:Be m l a):Be (Xf s m) (a0::pa::l) (b::V::a):=(.o (.o h))
theorem uf {t:Nat→Value}{m:List ob}{a0 pa:Value}{l a:List Value}(h:Je t m l a):Je t (lf m) (a0::pa::l) (a0::pa::a):=(mk (mk h))
theorem ig {t:Nat→Value}{m:List ob}{s:Nat}{a0 pa:Value}{l a:List Value}(h:Je t m l a):Je t (Xf s m) (a0::pa::l) (t s::t (s+1)::a):=(Zb (Zb h))
abbrev Vg (m:List ob):List ob:=.k::.k::.k::m
abbrev Hi (s:Nat) (m:List ob):List ob:=.o s::.o (s+1)::.o (s+2)::m
theorem ld {m:List ob}{a0 pa a2:Value}{l a:List Value}(h:Be m l a):Be (Vg m) (a0::pa::a2::l) (a0::pa::a2::a):=(.k (.k (.k h)))
theorem yg {m:List ob}{s:Nat}{a0 pa a2 b V Fe:Value}{l a:List Value}(h:Be m l a):Be (Hi s m) (a0::pa::a2::l) (b::V::Fe::a):=(.o (.o (.o h)))
theorem kh {t:Nat→Value}{m:List ob}{a0 pa a2:Value}{l a:List Value}(h:Je t m l a):Je t (Vg m) (a0::pa::a2::l) (a0::pa::a2::a):=(mk (mk (mk h)))
theorem hj {t:Nat→Value}{m:List ob}{s:Nat}{a0 pa a2:Value}{l a:List Value}(h:Je t m l a):Je t (Hi s m) (a0::pa::a2::l) (t s::t (s+1)::t (s+2)::a):=(Zb (Zb (Zb h)))
abbrev lh (m:List ob):List ob:=.k::.k::.k::.k::m
abbrev Yh (s:Nat) (m:List ob):List ob:=.o s::.o (s+1)::.o (s+2)::.o (s+3)::m
theorem Zd {m:List ob}{a0 pa a2 a3:Value}{l a:List Value}(h:Be m l a):Be (lh m) (a0::pa::a2::a3::l) (a0::pa::a2::a3::a):=(.k (.k (.k (.k h))))
theorem zd {m:List ob}{s:Nat}{a0 pa a2 a3 b V Fe Za:Value}{l a:List Value}(h:Be m l a):Be (Yh s m) (a0::pa::a2::a3::l) (b::V::Fe::Za::a):=(.o (.o (.o (.o h))))
theorem vh {t:Nat→Value}{m:List ob}{a0 pa a2 a3:Value}{l a:List Value}(h:Je t m l a):Je t (lh m) (a0::pa::a2::a3::l) (a0::pa::a2::a3::a):=(mk (mk (mk (mk h))))
theorem ui {t:Nat→Value}{m:List ob}{s:Nat}{a0 pa a2 a3:Value}{l a:List Value}(h:Je t m l a):Je t (Yh s m) (a0::pa::a2::a3::l) (t s::t (s+1)::t (s+2)::t (s+3)::a):=(Zb (Zb (Zb (Zb h))))
abbrev Wg (m:List ob):List ob:=.k::.k::.k::.k::.k::m
abbrev Pn (s:Nat) (m:List ob):List ob:=.o s::.o (s+1)::.o (s+2)::.o (s+3)::.o (s+4)::m
theorem ie {m:List ob}{a0 pa a2 a3 a4:Value}{l a:List Value}(h:Be m l a):Be (Wg m) (a0::pa::a2::a3::a4::l) (a0::pa::a2::a3::a4::a):=(.k (.k (.k (.k (.k h)))))
theorem sl {m:List ob}{s:Nat}{a0 pa a2 a3 a4 b V Fe Za gf:Value}{l a:List Value}(h:Be m l a):Be (Pn s m) (a0::pa::a2::a3::a4::l) (b::V::Fe::Za::gf::a):=(.o (.o (.o (.o (.o h)))))
theorem mh {t:Nat→Value}{m:List ob}{a0 pa a2 a3 a4:Value}{l a:List Value}(h:Je t m l a):Je t (Wg m) (a0::pa::a2::a3::a4::l) (a0::pa::a2::a3::a4::a):=(mk (mk (mk (mk (mk h)))))
theorem kq {t:Nat→Value}{m:List ob}{s:Nat}{a0 pa a2 a3 a4:Value}{l a:List Value}(h:Je t m l a):Je t (Pn s m) (a0::pa::a2::a3::a4::l) (t s::t (s+1)::t (s+2)::t (s+3)::t (s+4)::a):=(Zb (Zb (Zb (Zb (Zb h)))))
abbrev vi (m:List ob):List ob:=.k::.k::.k::.k::.k::.k::m
abbrev Vj (s:Nat) (m:List ob):List ob:=.o s::.o (s+1)::.o (s+2)::.o (s+3)::.o (s+4)::.o (s+5)::m
theorem re {m:List ob}{a0 pa a2 a3 a4 a5:Value}{l a:List Value}(h:Be m l a):Be (vi m) (a0::pa::a2::a3::a4::a5::l) (a0::pa::a2::a3::a4::a5::a):=(.k (.k (.k (.k (.k (.k h))))))
theorem zf {m:List ob}{s:Nat}{a0 pa a2 a3 a4 a5 b V Fe Za gf c:Value}{l a:List Value}(h:Be m l a):Be (Vj s m) (a0::pa::a2::a3::a4::a5::l) (b::V::Fe::Za::gf::c::a):=(.o (.o (.o (.o (.o (.o h))))))
theorem Qi {t:Nat→Value}{m:List ob}{a0 pa a2 a3 a4 a5:Value}{l a:List Value}(h:Je t m l a):Je t (vi m) (a0::pa::a2::a3::a4::a5::l) (a0::pa::a2::a3::a4::a5::a):=(mk (mk (mk (mk (mk (mk h))))))
theorem Hk {t:Nat→Value}{m:List ob}{s:Nat}{a0 pa a2 a3 a4 a5:Value}{l a:List Value}(h:Je t m l a):Je t (Vj s m) (a0::pa::a2::a3::a4::a5::l) (t s::t (s+1)::t (s+2)::t (s+3)::t (s+4)::t (s+5)::a):=(Zb (Zb (Zb (Zb (Zb (Zb h))))))
abbrev Dj (m:List ob):List ob:=.k::.k::.k::.k::.k::.k::.k::m
abbrev Wj (s:Nat) (m:List ob):List ob:=.o s::.o (s+1)::.o (s+2)::.o (s+3)::.o (s+4)::.o (s+5)::.o (s+6)::m
theorem Xg {m:List ob}{a0 pa a2 a3 a4 a5 Cb:Value}{l a:List Value}(h:Be m l a):Be (Dj m) (a0::pa::a2::a3::a4::a5::Cb::l) (a0::pa::a2::a3::a4::a5::Cb::a):=(.k (.k (.k (.k (.k (.k (.k h)))))))
theorem wi {m:List ob}{s:Nat}{a0 pa a2 a3 a4 a5 Cb b V Fe Za gf c Cf:Value}{l a:List Value}(h:Be m l a):Be (Wj s m) (a0::pa::a2::a3::a4::a5::Cb::l) (b::V::Fe::Za::gf::c::Cf::a):=(.o (.o (.o (.o (.o (.o (.o h)))))))
theorem Xj {t:Nat→Value}{m:List ob}{a0 pa a2 a3 a4 a5 Cb:Value}{l a:List Value}(h:Je t m l a):Je t (Dj m) (a0::pa::a2::a3::a4::a5::Cb::l) (a0::pa::a2::a3::a4::a5::Cb::a):=(mk (mk (mk (mk (mk (mk (mk h)))))))
theorem Ik {t:Nat→Value}{m:List ob}{s:Nat}{a0 pa a2 a3 a4 a5 Cb:Value}{l a:List Value}(h:Je t m l a):Je t (Wj s m) (a0::pa::a2::a3::a4::a5::Cb::l) (t s::t (s+1)::t (s+2)::t (s+3)::t (s+4)::t (s+5)::t (s+6)::a):=(Zb (Zb (Zb (Zb (Zb (Zb (Zb h)))))))
abbrev pk (m:List ob):List ob:=.k::.k::.k::.k::.k::.k::.k::.k::m
abbrev Ul (s:Nat) (m:List ob):List ob:=.o s::.o (s+1)::.o (s+2)::.o (s+3)::.o (s+4)::.o (s+5)::.o (s+6)::.o (s+7)::m
theorem Bh {m:List ob}{a0 pa a2 a3 a4 a5 Cb bc:Value}{l a:List Value}(h:Be m l a):Be (pk m) (a0::pa::a2::a3::a4::a5::Cb::bc::l) (a0::pa::a2::a3::a4::a5::Cb::bc::a):=(.k (.k (.k (.k (.k (.k (.k (.k h))))))))
theorem Ri {m:List ob}{s:Nat}{a0 pa a2 a3 a4 a5 Cb bc b V Fe Za gf c Cf fh:Value}{l a:List Value}(h:Be m l a):Be (Ul s m) (a0::pa::a2::a3::a4::a5::Cb::bc::l) (b::V::Fe::Za::gf::c::Cf::fh::a):=(.o (.o (.o (.o (.o (.o (.o (.o h))))))))
theorem Yk {t:Nat→Value}{m:List ob}{a0 pa a2 a3 a4 a5 Cb bc:Value}{l a:List Value}(h:Je t m l a):Je t (pk m) (a0::pa::a2::a3::a4::a5::Cb::bc::l) (a0::pa::a2::a3::a4::a5::Cb::bc::a):=(mk (mk (mk (mk (mk (mk (mk (mk h))))))))
theorem bn {t:Nat→Value}{m:List ob}{s:Nat}{a0 pa a2 a3 a4 a5 Cb bc:Value}{l a:List Value}(h:Je t m l a):Je t (Ul s m) (a0::pa::a2::a3::a4::a5::Cb::bc::l) (t s::t (s+1)::t (s+2)::t (s+3)::t (s+4)::t (s+5)::t (s+6)::t (s+7)::a):=(Zb (Zb (Zb (Zb (Zb (Zb (Zb (Zb h))))))))
abbrev Si (m:List ob):List ob:=.k::.k::.k::.k::.k::.k::.k::.k::.k::m
abbrev Zk (s:Nat) (m:List ob):List ob:=.o s::.o (s+1)::.o (s+2)::.o (s+3)::.o (s+4)::.o (s+5)::.o (s+6)::.o (s+7)::.o (s+8)::m
theorem mg {m:List ob}{a0 pa a2 a3 a4 a5 Cb bc eb:Value}{l a:List Value}(h:Be m l a):Be (Si m) (a0::pa::a2::a3::a4::a5::Cb::bc::eb::l) (a0::pa::a2::a3::a4::a5::Cb::bc::eb::a):=(.k (.k (.k (.k (.k (.k (.k (.k (.k h)))))))))
theorem Zh {m:List ob}{s:Nat}{a0 pa a2 a3 a4 a5 Cb bc eb b V Fe Za gf c Cf fh d:Value}{l a:List Value}(h:Be m l a):Be (Zk s m) (a0::pa::a2::a3::a4::a5::Cb::bc::eb::l) (b::V::Fe::Za::gf::c::Cf::fh::d::a):=(.o (.o (.o (.o (.o (.o (.o (.o (.o h)))))))))
theorem pj {t:Nat→Value}{m:List ob}{a0 pa a2 a3 a4 a5 Cb bc eb:Value}{l a:List Value}(h:Je t m l a):Je t (Si m) (a0::pa::a2::a3::a4::a5::Cb::bc::eb::l) (a0::pa::a2::a3::a4::a5::Cb::bc::eb::a):=(mk (mk (mk (mk (mk (mk (mk (mk (mk h)))))))))
theorem Vl {t:Nat→Value}{m:List ob}{s:Nat}{a0 pa a2 a3 a4 a5 Cb bc eb:Value}{l a:List Value}(h:Je t m l a):Je t (Zk s m) (a0::pa::a2::a3::a4::a5::Cb::bc::eb::l) (t s::t (s+1)::t (s+2)::t (s+3)::t (s+4)::t (s+5)::t (s+6)::t (s+7)::t (s+8)::a):=(Zb (Zb (Zb (Zb (Zb (Zb (Zb (Zb (Zb h)))))))))
abbrev Me (m:List ob):List ob:=.k::.k::.k::.k::.k::.k::.k::.k::.k::.k::m
abbrev Rd (s:Nat) (m:List ob):List ob:=.o s::.o (s+1)::.o (s+2)::.o (s+3)::.o (s+4)::.o (s+5)::.o (s+6)::.o (s+7)::.o (s+8)::.o (s+9)::m
theorem Hc {m:List ob}{a0 pa a2 a3 a4 a5 Cb bc eb a9:Value}{l a:List Value}(h:Be m l a):Be (Me m) (a0::pa::a2::a3::a4::a5::Cb::bc::eb::a9::l) (a0::pa::a2::a3::a4::a5::Cb::bc::eb::a9::a):=(.k (.k (.k (.k (.k (.k (.k (.k (.k (.k h))))))))))
theorem rb {m:List ob}{s:Nat}{a0 pa a2 a3 a4 a5 Cb bc eb a9 b V Fe Za gf c Cf fh d Vc:Value}{l a:List Value}(h:Be m l a):Be (Rd s m) (a0::pa::a2::a3::a4::a5::Cb::bc::eb::a9::l) (b::V::Fe::Za::gf::c::Cf::fh::d::Vc::a):=(.o (.o (.o (.o (.o (.o (.o (.o (.o (.o h))))))))))
theorem Te {t:Nat→Value}{m:List ob}{a0 pa a2 a3 a4 a5 Cb bc eb a9:Value}{l a:List Value}(h:Je t m l a):Je t (Me m) (a0::pa::a2::a3::a4::a5::Cb::bc::eb::a9::l) (a0::pa::a2::a3::a4::a5::Cb::bc::eb::a9::a):=(mk (mk (mk (mk (mk (mk (mk (mk (mk (mk h))))))))))
theorem Ud {t:Nat→Value}{m:List ob}{s:Nat}{a0 pa a2 a3 a4 a5 Cb bc eb a9:Value}{l a:List Value}(h:Je t m l a):Je t (Rd s m) (a0::pa::a2::a3::a4::a5::Cb::bc::eb::a9::l) (t s::t (s+1)::t (s+2)::t (s+3)::t (s+4)::t (s+5)::t (s+6)::t (s+7)::t (s+8)::t (s+9)::a):=(Zb (Zb (Zb (Zb (Zb (Zb (Zb (Zb (Zb (Zb h))))))))))
abbrev jd (m:List ob):List ob:=.k::.k::.k::.k::.k::.k::.k::.k::.k::.k::.k::.k::.k::.k::.k::.k::.k::.k::.k::.k::m
abbrev sf (s:Nat) (m:List ob):List ob:=.o s::.o (s+1)::.o (s+2)::.o (s+3)::.o (s+4)::.o (s+5)::.o (s+6)::.o (s+7)::.o (s+8)::.o (s+9)::.o (s+10)::.o (s+11)::.o (s+12)::.o (s+13)::.o (s+14)::.o (s+15)::.o (s+16)::.o (s+17)::.o (s+18)::.o (s+19)::m
theorem pb {m:List ob}{a0 pa a2 a3 a4 a5 Cb bc eb a9 Dd zc a12 a Jc b c d e f:Value}{l g:List Value}(h:Be m l g):Be (jd m) (a0::pa::a2::a3::a4::a5::Cb::bc::eb::a9::Dd::zc::a12::a::Jc::b::c::d::e::f::l) (a0::pa::a2::a3::a4::a5::Cb::bc::eb::a9::Dd::zc::a12::a::Jc::b::c::d::e::f::g):=(.k (.k (.k (.k (.k (.k (.k (.k (.k (.k (.k (.k (.k (.k (.k (.k (.k (.k (.k (.k h))))))))))))))))))))
theorem zb {m:List ob}{s:Nat}{a0 pa a2 a3 a4 a5 Cb bc eb a9 Dd zc a12 b Jc c d e f g i V Fe Za gf j Cf fh k Vc n p q ch r t u v Ig hd:Value}{l a:List Value}(h:Be m l a):Be (sf s m) (a0::pa::a2::a3::a4::a5::Cb::bc::eb::a9::Dd::zc::a12::b::Jc::c::d::e::f::g::l) (i::V::Fe::Za::gf::j::Cf::fh::k::Vc::n::p::q::ch::r::t::u::v::Ig::hd::a):=(.o (.o (.o (.o (.o (.o (.o (.o (.o (.o (.o (.o (.o (.o (.o (.o (.o (.o (.o (.o h))))))))))))))))))))
theorem pd {t:Nat→Value}{m:List ob}{a0 pa a2 a3 a4 a5 Cb bc eb a9 Dd zc a12 a Jc b c d e f:Value}{l g:List Value}(h:Je t m l g):Je t (jd m) (a0::pa::a2::a3::a4::a5::Cb::bc::eb::a9::Dd::zc::a12::a::Jc::b::c::d::e::f::l) (a0::pa::a2::a3::a4::a5::Cb::bc::eb::a9::Dd::zc::a12::a::Jc::b::c::d::e::f::g):=(mk (mk (mk (mk (mk (mk (mk (mk (mk (mk (mk (mk (mk (mk (mk (mk (mk (mk (mk (mk h))))))))))))))))))))
theorem Df {t:Nat→Value}{m:List ob}{s:Nat}{a0 pa a2 a3 a4 a5 Cb bc eb a9 Dd zc a12 b Jc c d e f g:Value}{l a:List Value}(h:Je t m l a):Je t (sf s m) (a0::pa::a2::a3::a4::a5::Cb::bc::eb::a9::Dd::zc::a12::b::Jc::c::d::e::f::g::l) (t s::t (s+1)::t (s+2)::t (s+3)::t (s+4)::t (s+5)::t (s+6)::t (s+7)::t (s+8)::t (s+9)::t (s+10)::t (s+11)::t (s+12)::t (s+13)::t (s+14)::t (s+15)::t (s+16)::t (s+17)::t (s+18)::t (s+19)::a):=(Zb (Zb (Zb (Zb (Zb (Zb (Zb (Zb (Zb (Zb (Zb (Zb (Zb (Zb (Zb (Zb (Zb (Zb (Zb (Zb h))))))))))))))))))))
abbrev qf (m:List ob):List ob:=.k::.k::.k::.k::.k::.k::.k::.k::.k::.k::.k::.k::.k::.k::.k::.k::.k::.k::.k::.k::.k::.k::.k::.k::.k::.k::.k::.k::.k::.k::.k::.k::.k::.k::.k::.k::.k::.k::.k::.k::.k::.k::.k::.k::.k::.k::.k::.k::.k::.k::m
abbrev Lj (s:Nat) (m:List ob):List ob:=.o s::.o (s+1)::.o (s+2)::.o (s+3)::.o (s+4)::.o (s+5)::.o (s+6)::.o (s+7)::.o (s+8)::.o (s+9)::.o (s+10)::.o (s+11)::.o (s+12)::.o (s+13)::.o (s+14)::.o (s+15)::.o (s+16)::.o (s+17)::.o (s+18)::.o (s+19)::.o (s+20)::.o (s+21)::.o (s+22)::.o (s+23)::.o (s+24)::.o (s+25)::.o (s+26)::.o (s+27)::.o (s+28)::.o (s+29)::.o (s+30)::.o (s+31)::.o (s+32)::.o (s+33)::.o (s+34)::.o (s+35)::.o (s+36)::.o (s+37)::.o (s+38)::.o (s+39)::.o (s+40)::.o (s+41)::.o (s+42)::.o (s+43)::.o (s+44)::.o (s+45)::.o (s+46)::.o (s+47)::.o (s+48)::.o (s+49)::m
theorem Bc {m:List ob}{a0 pa a2 a3 a4 a5 Cb bc eb a9 Dd zc a12 a Jc b c d e f a20 a21 a22 a23 a24 a25 a26 g a28 i j a31 n o p q r a37 s t a40 u v w x y a46 z A a49:Value}{l B:List Value}(h:Be m l B):Be (qf m) (a0::pa::a2::a3::a4::a5::Cb::bc::eb::a9::Dd::zc::a12::a::Jc::b::c::d::e::f::a20::a21::a22::a23::a24::a25::a26::g::a28::i::j::a31::n::o::p::q::r::a37::s::t::a40::u::v::w::x::y::a46::z::A::a49::l) (a0::pa::a2::a3::a4::a5::Cb::bc::eb::a9::Dd::zc::a12::a::Jc::b::c::d::e::f::a20::a21::a22::a23::a24::a25::a26::g::a28::i::j::a31::n::o::p::q::r::a37::s::t::a40::u::v::w::x::y::a46::z::A::a49::B):=(.k (.k (.k (.k (.k (.k (.k (.k (.k (.k (.k (.k (.k (.k (.k (.k (.k (.k (.k (.k (.k (.k (.k (.k (.k (.k (.k (.k (.k (.k (.k (.k (.k (.k (.k (.k (.k (.k (.k (.k (.k (.k (.k (.k (.k (.k (.k (.k (.k (.k h))))))))))))))))))))))))))))))))))))))))))))))))))
theorem Mb {m:List ob}{s:Nat}{a0 pa a2 a3 a4 a5 Cb bc eb a9 Dd zc a12 b Jc c d e f g a20 a21 a22 a23 a24 a25 a26 i a28 j k a31 n p q r t a37 u v a40 w x y z A a46 B C a49 D V Fe Za gf F Cf fh G Vc H K L ch M N O P Ig hd Q xi R S Hf Yf T U W X Y Tf Z gc hc lc rc fd id md rd td wd Fd Id be ce ge he le:Value}{l a:List Value}(h:Be m l a):Be (Lj s m) (a0::pa::a2::a3::a4::a5::Cb::bc::eb::a9::Dd::zc::a12::b::Jc::c::d::e::f::g::a20::a21::a22::a23::a24::a25::a26::i::a28::j::k::a31::n::p::q::r::t::a37::u::v::a40::w::x::y::z::A::a46::B::C::a49::l) (D::V::Fe::Za::gf::F::Cf::fh::G::Vc::H::K::L::ch::M::N::O::P::Ig::hd::Q::xi::R::S::Hf::Yf::T::U::W::X::Y::Tf::Z::gc::hc::lc::rc::fd::id::md::rd::td::wd::Fd::Id::be::ce::ge::he::le::a):=(.o (.o (.o (.o (.o (.o (.o (.o (.o (.o (.o (.o (.o (.o (.o (.o (.o (.o (.o (.o (.o (.o (.o (.o (.o (.o (.o (.o (.o (.o (.o (.o (.o (.o (.o (.o (.o (.o (.o (.o (.o (.o (.o (.o (.o (.o (.o (.o (.o (.o h))))))))))))))))))))))))))))))))))))))))))))))))))
theorem yf {t:Nat→Value}{m:List ob}{a0 pa a2 a3 a4 a5 Cb bc eb a9 Dd zc a12 a Jc b c d e f a20 a21 a22 a23 a24 a25 a26 g a28 i j a31 k n o p q a37 r s a40 u v w x y a46 z A a49:Value}{l B:List Value}(h:Je t m l B):Je t (qf m) (a0::pa::a2::a3::a4::a5::Cb::bc::eb::a9::Dd::zc::a12::a::Jc::b::c::d::e::f::a20::a21::a22::a23::a24::a25::a26::g::a28::i::j::a31::k::n::o::p::q::a37::r::s::a40::u::v::w::x::y::a46::z::A::a49::l) (a0::pa::a2::a3::a4::a5::Cb::bc::eb::a9::Dd::zc::a12::a::Jc::b::c::d::e::f::a20::a21::a22::a23::a24::a25::a26::g::a28::i::j::a31::k::n::o::p::q::a37::r::s::a40::u::v::w::x::y::a46::z::A::a49::B):=(mk (mk (mk (mk (mk (mk (mk (mk (mk (mk (mk (mk (mk (mk (mk (mk (mk (mk (mk (mk (mk (mk (mk (mk (mk (mk (mk (mk (mk (mk (mk (mk (mk (mk (mk (mk (mk (mk (mk (mk (mk (mk (mk (mk (mk (mk (mk (mk (mk (mk h))))))))))))))))))))))))))))))))))))))))))))))))))
theorem fk {t:Nat→Value}{m:List ob}{s:Nat}{a0 pa a2 a3 a4 a5 Cb bc eb a9 Dd zc a12 b Jc c d e f g a20 a21 a22 a23 a24 a25 a26 i a28 j k a31 n o p q r a37 u v a40 w x y z A a46 B C a49:Value}{l a:List Value}(h:Je t m l a):Je t (Lj s m) (a0::pa::a2::a3::a4::a5::Cb::bc::eb::a9::Dd::zc::a12::b::Jc::c::d::e::f::g::a20::a21::a22::a23::a24::a25::a26::i::a28::j::k::a31::n::o::p::q::r::a37::u::v::a40::w::x::y::z::A::a46::B::C::a49::l) (t s::t (s+1)::t (s+2)::t (s+3)::t (s+4)::t (s+5)::t (s+6)::t (s+7)::t (s+8)::t (s+9)::t (s+10)::t (s+11)::t (s+12)::t (s+13)::t (s+14)::t (s+15)::t (s+16)::t (s+17)::t (s+18)::t (s+19)::t (s+20)::t (s+21)::t (s+22)::t (s+23)::t (s+24)::t (s+25)::t (s+26)::t (s+27)::t (s+28)::t (s+29)::t (s+30)::t (s+31)::t (s+32)::t (s+33)::t (s+34)::t (s+35)::t (s+36)::t (s+37)::t (s+38)::t (s+39)::t (s+40)::t (s+41)::t (s+42)::t (s+43)::t (s+44)::t (s+45)::t (s+46)::t (s+47)::t (s+48)::t (s+49)::a):=(Zb (Zb (Zb (Zb (Zb (Zb (Zb (Zb (Zb (Zb (Zb (Zb (Zb (Zb (Zb (Zb (Zb (Zb (Zb (Zb (Zb (Zb (Zb (Zb (Zb (Zb (Zb (Zb (Zb (Zb (Zb (Zb (Zb (Zb (Zb (Zb (Zb (Zb (Zb (Zb (Zb (Zb (Zb (Zb (Zb (Zb (Zb (Zb (Zb (Zb h))))))))))))))))))))))))))))))))))))))))))))))))))
theorem Ea {m:List ob}{v a:Value}{l b:List Value}(h:Be m l b):Be (.i v::m) (a::l) (v::b):=.i h
theorem ra {l:List Value}:Be [] l l:=.z
end Go.yb
namespace Go.yb
open Go.RowKit
section
variable {P:Program}{Q:Exit→Act→World→Prop}{ops:Array Oper}{fr sa:List Value}{ds:List Deferred}{w:World}
theorem Ru (ops:Array Oper) (fr:List Value) (ds:List Deferred) (j:Nat):yielded ops (F fr ds).tmps j=match (ops[j]?).bind (·.dst) with | some s=>(match (F fr ds).eval (.tmp s) with | .bool b=>some b | _=>none) | none=>none:=by
 unfold yielded;cases h:(ops[j]?).bind (·.dst) with
 | none=>simp
 | some s =>
  simp only [Option.bind_some,F,Act.eval];cases a:(⟨fr⟩:Array Value)[s]? with
  | none =>
   have:(⟨fr⟩:Array Value).getD s undef=undef:=by simp [Array.getD_eq_getD_getElem?,a]
   first
    | (simp [a,undef]; done)
    | (rw [this]; simp [undef])
  | some v =>
   have:(⟨fr⟩:Array Value).getD s undef=v:=by simp [Array.getD_eq_getD_getElem?,a]
   first
    | (simp [a]; done)
    | (rw [this]; cases v <;> rfl)
theorem wanted_put {o p:Oper}{fr:List Value}{ds ds':List Deferred}{g:List Value→List Value}(g3:∀ (y:Operand),(∀ e,p.dst=some e→Qp y≠some e)→(F (g fr) ds).eval y=(F fr ds).eval y) (c:∀ e,p.dst=some e→(reads ops o).contains e=false) :
  Region.wanted o (yielded ops (F (g fr) ds').tmps)=Region.wanted o (yielded ops (F fr ds').tmps):=by
 have Hb:(F (g fr) ds').tmps=(F (g fr) ds).tmps:=rfl;have qa:(F fr ds').tmps=(F fr ds).tmps:=rfl;rw [Hb,qa];unfold Region.wanted;cases d:o.guard with
 | none=>rfl
 | some f =>
  obtain ⟨j,b⟩:=f;simp only;have:yielded ops (F (g fr) ds).tmps j=yielded ops (F fr ds).tmps j:=by
   rw [Ru,Ru];cases hs:(ops[j]?).bind (·.dst) with
   | none=>rfl
   | some s =>
    simp only;rw [g3 (.tmp s) fun e he a=>by
     simp [Qp] at a;subst a;have:=c s he;unfold reads at this;rw [d] at this;simp [hs] at this]
  first
   | rw [this]
   | simp [this]
theorem oA {rd:Bool}{i d:Nat}(s:di Q d){o:Oper}{v:Value}(z:ops[i]?=some o) (Na:o.dst=some d){wt:Bool}(A:wt=false→v=undef){w0:World} :
  ∀ (a b:List Nat) (fr:List Value) (ds:List Deferred) (w:World),
   (∀ j ∈ a,match ops[j]? with
    | some p=>yk p.op=true∧(reads ops p).contains d=false∧p.dst≠some d∧(∀ e,p.dst=some e→(reads ops o).contains e=false)∧(rd=true→quiet p.op=true)
    | none=>True) →
   (rd=true→w=w0)→yk o.op=true→Region.wanted o (yielded ops (F fr ds).tmps)=wt →
   (wt=true→∀ ds w,(rd=true→w=w0)→(execOp (F fr ds).eval o).run P w=.ok (.value v) w) →
   wpOps P ops Q (a++b) (F (fr.set d v) ds) w→wpOps P ops Q (a++i::b) (F fr ds) w
 | [],b,fr,ds,w,_,hw,t,c,u,h=>by
  simp only [List.nil_append] at h ⊢;simp only [wpOps,z];cases wt with
  | true =>
   rw [if_pos c];left;unfold Oper.wp;rw [u rfl ds w hw,Oper.upon_value,Na];rw [show (F fr ds).put (some d) v=F (fr.set d v) ds from ia rfl ds];exact h
  | false =>
   rw [if_neg (by rw [c];simp),Na,← A rfl];rw [show (F fr ds).put (some d) v=F (fr.set d v) ds from ia rfl ds];exact h
 | j::a,b,fr,ds,w,N,hw,t,c,u,h=>by
  have B:=N j (by simp);have O:∀ k ∈ a,_:=fun k l=>N k (by simp [l]);simp only [List.cons_append,wpOps] at h ⊢;cases R:ops[j]? with
  | none =>
   rw [R] at h;simp only at h ⊢;exact oA s z Na A a b fr ds w O hw t c u h
  | some p =>
   rw [R] at h B;simp only at h B ⊢;obtain ⟨S,C,W,T,D⟩:=B;rw [my (fr:=fr) (v:=v) (ds:=ds) (ds':=ds) C] at h;have key:∀ (x:Value) (w':World) (ds':List Deferred),(rd=true→w'=w0)→wpOps P ops Q (a++b) ((F (fr.set d v) ds').put p.dst x) w'→wpOps P ops Q (a++i::b) ((F fr ds').put p.dst x) w':=by
    intro x w' ds' m l;obtain ⟨g,g1,g2,g3⟩:=put_eq fr ds' p.dst x;have X:=wanted_put (ops:=ops) (o:=o) (p:=p) (ds':=ds') (fun y G=>g3 fr y ds' ds' G) T;rw [g1] at l ⊢;rw [g2 _ _ _ W] at l;refine oA s z Na A a b (g fr) ds' w' O m t (X.trans c) (fun Y n Z gc=>?_) l;rw [show execOp (F (g fr) n).eval o=execOp (F fr n).eval o from execOp_congr o t fun y G=>g3 fr y n n fun e he hs=>by
     exact Rv (T e he) y G hs]
    exact u Y n Z gc
   by_cases U:Region.wanted p (yielded ops (F fr ds).tmps)=true
   ·rw [if_pos U] at h ⊢;rcases h with h | h
    ·left;unfold Oper.wp at h ⊢;rw [ir (ds':=ds) S C] at h;cases q:(execOp (F fr ds).eval p).run P w with
     | halt e w' =>
      rw [q] at h;cases e<;>first | exact h | exact s _ _ _ _ _ h
     | ok r w' =>
      rw [q] at h;have m:rd=true→w'=w0:=fun e=>(Vq (D e) q).1.trans (hw e);cases r with
      | value x=>exact key x w' ds m h
      | skip=>exact key undef w' ds m h
      | defer hc=>exact key undef w' (hc::ds) m h
      | enter f args =>
       have H:rd=true→False:=fun e=>by obtain ⟨_,x,K⟩:=Vq (D e) q;cases K
       rw [Oper.upon_enter] at h ⊢;refine Calls.mono h fun e L he=>?_;cases e with
       | returned x=>exact key x L ds (fun e=>(H e).elim) he
       | panicked lc=>exact s _ _ _ _ _ he
       | outgrown=>exact he
      | row r args =>
       have H:rd=true→False:=fun e=>by obtain ⟨_,x,K⟩:=Vq (D e) q;cases K
       rw [Oper.upon_row] at h ⊢;exact Rows.mono h fun x L he=>key x L ds (fun e=>(H e).elim) he
      | _=>exact h
    ·right;refine ⟨?_,h.2⟩;have M:=h.1;unfold Oper.asks at M ⊢;rw [ir (ds':=ds) S C] at M;exact M
   ·rw [if_neg U] at h ⊢;exact key undef w ds hw h
theorem RB {o:Oper}{j d:Nat}{b jg:Bool}(a:o.guard=some (j,b)) (c:(ops[j]?).bind (·.dst)=some d) (e:Pb fr d (.bool jg)):Region.wanted o (yielded ops (F fr ds).tmps)=(jg == b):=by
 unfold Region.wanted;rw [a];simp only;have:yielded ops (F fr ds).tmps j=some jg:=by
  rw [Ru,c];simp only;rw [aa e ds]
 rw [this];cases b<;>cases jg<;>rfl
theorem xG {o:Oper}{j d:Nat}{b:Bool}(a:o.guard=some (j,b)) (c:(ops[j]?).bind (·.dst)=some d) (e:Pb fr d undef):Region.wanted o (yielded ops (F fr ds).tmps)=false:=by
 unfold Region.wanted;rw [a];simp only;have:yielded ops (F fr ds).tmps j=none:=by
  rw [Ru,c];simp only;rw [aa e ds];rfl
 rw [this];rfl
theorem Wb {o:Oper}(a:o.guard=none):Region.wanted o (yielded ops (F fr ds).tmps)=true:=by simp [Region.wanted,a]
theorem jr {o:Oper}{j d:Nat}{b:Bool}(a:o.guard=some (j,b)) (c:(ops[j]?).bind (·.dst)=some d) (e:Pb fr d (.bool b)):Region.wanted o (yielded ops (F fr ds).tmps)=true :=
 (RB a c e).trans (by cases b<;>rfl)
end
end Go.yb
namespace Go.yb
open Go.RowKit
section
variable {P:Program}{Q:Exit→Act→World→Prop}{ops:Array Oper}{fr sa:List Value}{ds:List Deferred}{w:World}
def waits (ops:Array Oper) (R S:List Nat) (i:Nat):Bool:=S.all fun j=>j == i || S.any fun k=>(Uk ops j).contains k && R.contains k
theorem Sk.later {R d:List Nat}(h:Sk ops R d) (m:R.Nodup){i:Nat}{S:List Nat}(n:∀ j ∈ S,j=i∨∃ k ∈ S,k ∈ Uk ops j∧k ∈ R):∀ a c,d=a++i::c→i ∉ a→∀ j ∈ a,j ∉ S:=by
 induction h with
 | z=>intro a c h; simp at h
 | @s R d k o t p =>
  intro a c h Ua j b;cases a with
  | nil=>cases b
  | cons e a =>
   simp only [List.cons_append,List.cons.injEq] at h;obtain ⟨rfl,h⟩:=h;have he:k ∉ S:=fun hm=>by
    rcases n k hm with rfl | ⟨q,f,g,l⟩
    ·exact Ua (by simp)
    ·exact SA o g l
   rcases List.mem_cons.1 b with rfl | b
   ·exact he
   ·refine p (m.erase k) (fun j b=>?_) a c h (fun hm=>Ua (by simp [hm])) j b;rcases n j b with rfl | ⟨q,f,g,l⟩
    ·exact .inl rfl
    ·exact .inr ⟨q,f,g,(m.mem_erase_iff).2 ⟨fun e=>he (e ▸ f),l⟩⟩
def Jw (ops:Array Oper) (S R:List Nat) (i:Nat):Bool :=
 match ops[i]? with
 | some o=>match o.dst with
  | some d=>yk o.op && R.all fun j=>S.contains j || (match ops[j]? with
    | some p=>yk p.op && !(reads ops p).contains d && p.dst != some d && (match p.dst with | some e=>!(reads ops o).contains e | none=>true) && quiet p.op
    | none=>true)
  | _=>false
 | none=>false
theorem GF {R R':List Nat}{i:Nat}(S:List Nat){wt:Bool}{dst:Tmp}{op:Op}{ty:TypeId}{pos:String}{after:Array Edge}{m:Option (Nat×Bool)}{v:Value}(A:di Q dst) (n:(decide R.Nodup && enabled ops R i && waits ops R S i && Jw ops S R i)=true) (B:R.erase i=R') (o:ops[i]?=some ⟨some dst,op,ty,pos,after,m⟩)
  (C:Region.wanted ⟨some dst,op,ty,pos,after,m⟩ (yielded ops (F fr ds).tmps)=wt) (D:wt=false→v=undef)
  (Wa:wt=true→∀ ds w',w'=w→(execOp (F fr ds).eval ⟨some dst,op,ty,pos,after,m⟩).run P w'=.ok (.value v) w') (f:oc fr dst v sa) (h:Ai P ops Q R' sa ds w):Ai P ops Q R fr ds w:=⟨fun U q=>by
 simp only [Bool.and_eq_true,decide_eq_true_eq] at n;obtain ⟨⟨⟨r,s⟩,t⟩,g⟩:=n;obtain ⟨u,x,rfl,G,y⟩:=q.split r (Dm s) s;have H:=Sk.later (S:=S) q r (fun j l=>by
  unfold waits at t;have:=List.all_eq_true.1 t j l;simp only [Bool.or_eq_true,beq_iff_eq,List.any_eq_true,Bool.and_eq_true,List.contains_iff_mem] at this;rcases this with h | ⟨k,k1,K,L⟩
  ·exact .inl h
  ·exact .inr ⟨k,k1,K,L⟩) u x rfl (fun hm=>(y i hm).2.1 rfl)
 unfold Jw at g;simp only [o,Bool.and_eq_true,List.all_eq_true,Bool.or_eq_true,List.contains_iff_mem] at g;unfold oc at f;subst f;subst B;refine oA A o rfl D (rd:=true) (w0:=w) (v:=v) u x fr ds w (fun j l=>?_) (fun _=>rfl) g.1 C (fun a b c d=>Wa a b c (d rfl)) (h.out _ G);obtain ⟨a,b,c⟩:=y j l;have:=g.2 j a;rcases this with h | h
 ·exact absurd h (H j l)
 ·cases f:ops[j]? with
  | none=>trivial
  | some p =>
   rw [f] at h;simp only [Bool.and_eq_true,Bool.not_eq_true',bne_iff_ne,ne_eq] at h;obtain ⟨⟨⟨⟨M,N⟩,O⟩,z⟩,T⟩:=h;refine ⟨M,N,O,fun e he=>?_,fun e=>T⟩;rw [he] at z;simpa using z⟩
theorem pJ {R R':List Nat}{i:Nat}(S:List Nat){dst:Tmp}{op:Op}{ty:TypeId}{pos:String}{after:Array Edge}{v:Value}(a:di Q dst) (b:(decide R.Nodup && enabled ops R i && waits ops R S i && Jw ops S R i)=true) (c:R.erase i=R') (d:ops[i]?=some ⟨some dst,op,ty,pos,after,none⟩)
  (Wa:yl P ⟨some dst,op,ty,pos,after,none⟩ fr w v) (e:oc fr dst v sa) (h:Ai P ops Q R' sa ds w):Ai P ops Q R fr ds w :=
 GF S (wt:=true) a b c d (Wb rfl) (fun h=>by cases h) (fun _ ds w' hw=>by rw [hw];exact Wa.out ds) e h
end
end Go.yb
namespace Go.yb
open Go.RowKit
section
variable {P:Program}{Q:Exit→Act→World→Prop}{K:List Value→List Deferred→World→Prop}{fr sa:List Value}{ds:List Deferred}{w:World}
variable {dst:Option Tmp}{ty:TypeId}{pos:String}{after:Array Edge}{g:Option (Nat×Bool)}
variable {S Ad:Nat→Prop}{w0:World}{rs rs':List kb}{A:World→Prop}
variable {T:TypeId}{d:TypeDesc}{Bf:Bool}{sd:List Value}{n m:Nat}
inductive Dr (fr:List Value) (n:Nat):Nat→List (Nat×Operand)→List Value→Prop where
 | z {i:Nat}:Dr fr n i [] []
 | s {i:Nat} {x:Operand} {v:Value} {cs rest:List Value} {xs:List (Nat×Operand)} (a:Ya fr x v) (Wa:v.cells=⟨cs⟩) (b:cs.length=n) (t:Dr fr n (i+1) xs rest):Dr fr n i ((i,x)::xs) (cs++rest)
theorem Dr.fill {i:Nat}{xs:List (Nat×Operand)}{cells:List Value}(h:Dr fr n i xs cells):∀ a:List Value,a.length=i*n+cells.length →
  Instr.fill (fun i=>some (i*n,n)) ⟨a⟩ (xs.map fun p=>(p.1,(F fr ds).eval p.2))=some ⟨a.take (i*n)++cells⟩:=by
 induction h with
 | z=>intro a b; simp at b; simp [Instr.fill,← b]
 | @s i x v cs rest xs f Wa c t g =>
  intro a b;simp only [List.length_append] at b;have d:(i+1)*n=i*n+n:=by rw [Nat.add_mul,Nat.one_mul]
  simp only [List.map_cons,Instr.fill,f ds,Wa];have Hb:¬ (((⟨cs⟩:Array Value).size≠n || i*n+(⟨cs⟩:Array Value).size > (⟨a⟩:Array Value).size)=true):=by simp [c,b]
  rw [if_neg Hb];have j:=Qu cs (i*n) 0 a (by omega);have qa:(⟨cs⟩:Array Value).zipIdx.toList=cs.zipIdx 0:=by simp
  have e:(⟨cs⟩:Array Value).zipIdx.foldl (fun (cs:Array Value) (p:Value×Nat)=>cs.setIfInBounds (i*n+p.2) p.1) ⟨a⟩=⟨a.take (i*n+0)++cs++a.drop (i*n+0+cs.length)⟩:=by
   rw [← Array.foldl_toList,qa];exact j
  first
   | rw [e]
   | (erw [e])
  rw [g _ (by simp [d,c,b];omega)];congr 2;rw [d,c,Nat.add_zero];have:(a.take (i*n)++cs).length=i*n+n:=by simp [c];omega
  rw [← this,List.take_left,List.append_assoc]
theorem PC {e:TypeId}{len:Nat}{xs:List (Nat×Operand)}{cells:List Value}(f:P.underlying T=some (.slice e)) (c:mc P e Bf sd n m) (a:(decide (0<n) && decide (n≤1000) && decide (0<len) && decide (len≤1000))=true) (j:Dr fr n 0 xs cells) (k:cells.length=len*n) (l:Sep S Ad w0 w rs A)
  (h:∀ b w',w.heap.size≤b→Sep S Ad w0 w' (.ba b e cells::rs) A→bh fr dst (.slice (some ⟨b,0,none⟩) len len) fun sa=>K sa ds w'):Gd P (Oper.mk dst (.buildSlice T len ⟨xs⟩) ty pos after g) fr ds w K Q:=by
 obtain ⟨sa,Na⟩:=Ei fr dst (.slice (some ⟨w.heap.size,0,none⟩) len len);refine Th (v:=.slice (some ⟨w.heap.size,0,none⟩) len len) (w':=w.alloc (.cells ⟨cells⟩ e)) ?_ Na (h _ _ (Nat.le_refl _) (l.alloc rfl (heap_alloc_new w _)) sa Na);obtain ⟨z,o,hc⟩:=c.zero (w:=w);have q:=c.sizeOf (w:=w);simp only [Bool.and_eq_true,decide_eq_true_eq] at a;have hmul:len*n≤1000*1000:=Nat.mul_le_mul a.2 a.1.1.2;have r:¬ (len*n > 2 ^ 24):=by omega
 have s:¬ (len*n=0):=by
  have:=Nat.mul_pos a.1.2 a.1.1.1;omega
 have t:((⟨xs⟩:Array (Nat×Operand)).map fun (i,x)=>(i,(F fr ds).eval x)).toList=xs.map fun p=>(p.1,(F fr ds).eval p.2):=by simp
 have d:=j.fill (ds:=ds) ((Array.range (len*n)).map (z.cells[· % z.cells.size]!)).toList (by simp [k]);simp only [execOp,Instr.buildSlice,Sem.run_bind,run_underlying f,Result.andThen_ok,q,if_neg r,if_neg s,o,Sem.run_pure,t];have u:(⟨((Array.range (len*n)).map (z.cells[· % z.cells.size]!)).toList⟩:Array Value)=(Array.range (len*n)).map (z.cells[· % z.cells.size]!):=rfl;rw [u] at d;simp only [d];simp [newRow]
structure Fu (P:Program) (c:Code) (Q:Exit→Act→World→Prop) (n:Nat) (fr:List Value) (ds:List Deferred) (w:World):Prop where
 out:Code.rounds P c Q n (F fr ds) w
theorem hz {c:Code}(n:Nat) (h:Fu P c Q n fr ds w):te P (.loop c) Q fr ds w:=⟨wp_loop_rounds n h.out⟩
theorem tm {c:Code}{n:Nat}(h:te P c (Exit.then (fun a w=>∃ fr ds,a=F fr ds∧Fu P c Q n fr ds w) Q) fr ds w):Fu P c Q (n+1) fr ds w:=⟨by
 rw [rounds_succ];refine wp_mono h.out fun e a w b=>?_;cases e with
 | normal=>obtain ⟨fr,ds,rfl,h⟩:=b; exact h.out
 | exit id=>exact b
 | goto l=>exact b
 | ret=>exact b
 | panic d=>exact b
 | outgrown=>exact b⟩
theorem Xo {c:Code}{n:Nat}(h:Fu P c Q n fr ds w):Exit.then (fun a w=>∃ fr ds,a=F fr ds∧Fu P c Q n fr ds w) Q .normal (F fr ds) w:=⟨_,_,rfl,h⟩
theorem lC {f:Operand}{xs:List Operand}{tys:Array TypeId}{k:FuncId}{first cap vs:List Value}{R:Value→World→Prop}(b:Fb P k) (c:Ya fr f (.func (.func k) ⟨first⟩ ⟨cap⟩)) (hs:rl fr xs vs)
  (hc:sb P k (first++vs++cap) w R) (h:∀ v w',R v w'→bh fr dst v fun sa=>K sa ds w'):Gd P (Oper.mk dst (.call { callee:=.value f,args:=⟨xs⟩,argTypes:=tys }) ty pos after g) fr ds w K Q:=by
 refine pw (args:=first++vs++cap) ?_ hc h;have d:=c ds;have i:=hs ds;have a:=b.out ⟨first++vs++cap⟩ w;have e:(⟨first⟩:Array Value)++(⟨vs⟩:Array Value)++(⟨cap⟩:Array Value)=⟨first++vs++cap⟩:=by
  apply Array.ext';simp
 simp only [List.append_assoc] at a e ⊢;simp [execOp,resolve,d,Deferred.ofValue,invoke,i];first
  | exact a
  | (simpa using a)
end
end Go.yb
namespace Go.kc
open Go.yb Go.RowKit
section
variable {P:Program}{Q:Exit→Act→World→Prop}{K:List Value→List Deferred→World→Prop}{fr sa:List Value}{ds:List Deferred}{w:World}
variable {dst:Option Tmp}{ty:TypeId}{pos:String}{after:Array Edge}{g:Option (Nat×Bool)}
variable {w0:World}{rs rs':List kb}{μ I:M}
variable {T:TypeId}{d:TypeDesc}{Bf:Bool}{sd:List Value}{n m:Nat}
def okV (R:Value→World→Prop):Ending→World→Prop
 | .returned v,w=>R v w
 | _,_=>False
def Pr (P:Program) (fn:Func) (R:Value→World→Prop):Exit→Act→World→Prop
 | .panic _,_,_=>False
 | e,a,w=>bodyPostD P fn (okV R) e a w
theorem Wt {f:FuncId}{fn:Func}{c:Code}{args frm:List Value}{R:Value→World→Prop}(d:P.funcs[f]?=some fn) (g:fn.body=some c)
  (i:args++List.replicate (fn.ntmps - args.length) undef=frm) (h:te P c (Pr P fn R) frm [] w):sb P f args w R:=by
 refine ⟨Calls.mono (calls_of_wp_defers (R:=okV R) d g ?_) fun e w he=>by cases e<;>exact he⟩;subst i;have qa:(⟨args⟩:Array Value)++Array.replicate (fn.ntmps - args.length) undef=⟨args++List.replicate (fn.ntmps - args.length) undef⟩:=by
  apply Array.ext';simp
 have h:=wp_mono h.out (Q':=bodyPostD P fn (okV R)) fun e a w b=>by
  cases e<;>first | exact b | exact (False.elim b)
 simpa [F,qa] using h
structure vw (P:Program) (f:FuncId) (args:List Value) (w:World) (R:Value→World→Prop):Prop where
 out:∀ u,CallsD P f ⟨args⟩ u w fun e a w'=>a=u∧okV R e w'
theorem mC {f:FuncId}{fn:Func}{c:Code}{args frm:List Value}{R:Value→World→Prop}(d:P.funcs[f]?=some fn) (g:fn.body=some c)
  (j:args++List.replicate (fn.ntmps - args.length) undef=frm) (h:te P c (Wo P fn R) frm [] w):vw P f args w R:=by
 refine ⟨fun u=>callsD_of_wp d g ?_⟩;subst j;have qa:(⟨args⟩:Array Value)++Array.replicate (fn.ntmps - args.length) undef=⟨args++List.replicate (fn.ntmps - args.length) undef⟩:=by
  apply Array.ext';simp
 have h:=wp_mono h.out (Q':=bodyPost P fn (okV R)) fun e a w b=>by
  cases e with
  | normal=>exact b
  | ret=>exact b
  | panic k=>exact b
  | exit i=>exact b
  | goto l=>exact b
  | outgrown=>exact b
 simpa [F,qa] using h
theorem xw {f:Operand}{xs:List Operand}{tys:Array TypeId}{k:FuncId}{cap vs:List Value}(a:Ya fr f (.func (.func k) #[] ⟨cap⟩)) (hs:rl fr xs vs)
  (b:Xe fr dst undef sa) (h:K sa (⟨.fn (.func k) ⟨cap⟩,⟨vs⟩⟩::ds) w):Gd P (Oper.mk dst (.defer { callee:=.value f,args:=⟨xs⟩,argTypes:=tys }) ty pos after g) fr ds w K Q:=by
 constructor;intro j c;have d:=a ds;have e:=hs ds;have i:(execOp (F fr ds).eval (Oper.mk dst (.defer { callee:=.value f,args:=⟨xs⟩,argTypes:=tys }) ty pos after g)).run P w=.ok (.defer ⟨.fn (.func k) ⟨cap⟩,⟨vs⟩⟩) w:=by
  simp [execOp,resolve,d,Deferred.ofValue,e]
 unfold Oper.wp;rw [i];have:=c _ _ _ h;rw [← b _] at this;simpa [Oper.upon,F,Act.put] using this
theorem pA {fn:Func}{R a:Value→World→Prop}{k:FuncId}{cap vs:List Value}(b:Fb P k) (hc:vw P k (vs++cap) w a) (h:∀ v w',a v w'→Pr P fn R .ret (F fr ds) w') :
  Pr P fn R .ret (F fr (⟨.fn (.func k) ⟨cap⟩,⟨vs⟩⟩::ds)) w:=by
 refine ⟨by simp,.func k,⟨cap⟩,k,⟨vs++cap⟩,rfl,?_,?_⟩
 ·have:=b.out ⟨vs++cap⟩ w;simp [invoke,this]
 ·refine (hc.out .returning).mono fun e d w' he=>?_;obtain ⟨rfl,he⟩:=he;cases e with
  | returned v=>exact h v w' he
  | panicked c=>exact he.elim
  | outgrown=>exact he.elim
theorem Qr {fn:Func}{R:Value→World→Prop}{a:List ResultVar}{vs:List Value}(b:fn.results=⟨a⟩) (Wa:nc P fr w a vs) (h:R (Yr vs) w):Pr P fn R .ret (F fr []) w :=
 ⟨_,RA b Wa,h⟩
def wh (ms:List (Nat×List MapEntry×Nat)):List kb:=(ms.map fun m=>.map m.1 m.2.1 m.2.2).reverse
def Oh (ms:List (Nat×List MapEntry×Nat)):List Value:=ms.map fun m=>.map (some m.1)
variable {κ β:Type}[DecidableEq κ] [ob κ] [Rh β]
def Kg (μ:M):List (Nat×List MapEntry×Nat)→List (List (κ×β))→Prop
 | [],a=>a=[]
 | m::ms,a=>∃ x t,a=x::t∧lg μ m.2.1 m.2.2 x∧Kg μ ms t
theorem Kg.up (l:da μ I):∀ {ms:List (Nat×List MapEntry×Nat)}{a:List (List (κ×β))},Kg μ ms a→Kg I ms a
 | [],a,h=>by rw [Kg] at h ⊢; exact h
 | m::ms,a,h=>by
  rw [Kg] at h ⊢;obtain ⟨x,t,b,c,d⟩:=h;exact ⟨x,t,b,c.up l,Kg.up l d⟩
theorem Kg.push:∀ {ms:List (Nat×List MapEntry×Nat)}{a:List (List (κ×β))}{e:Nat×List MapEntry×Nat}{x:List (κ×β)},Kg μ ms a→lg μ e.2.1 e.2.2 x→Kg μ (ms++[e]) (a++[x])
 | [],a,e,x,h,b=>by rw [Kg] at h; subst h; exact ⟨x,[],rfl,b,rfl⟩
 | m::ms,a,e,x,h,b=>by
  rw [Kg] at h;obtain ⟨y,t,rfl,c,d⟩:=h;exact ⟨y,_,rfl,c,Kg.push d b⟩
theorem Kg.take:∀ {ms:List (Nat×List MapEntry×Nat)}{a:List (List (κ×β))}(j:Nat),Kg μ ms a→Kg μ (ms.take j) (a.take j)
 | [],a,j,h=>by rw [Kg] at h; subst h; simp [Kg]
 | m::ms,a,j,h=>by
  rw [Kg] at h;obtain ⟨y,t,rfl,b,c⟩:=h;cases j with
  | zero=>simp [Kg]
  | succ j=>exact ⟨y,_,rfl,b,Kg.take j c⟩
theorem kE (ms:List (Nat×List MapEntry×Nat)) (e:Nat×List MapEntry×Nat):wh (ms++[e])=.map e.1 e.2.1 e.2.2::wh ms:=by simp [wh]
theorem qJ {t:TypeId}{s x:Operand}{v:Value}{bytes k b cm c:Nat}{ms:List (Nat×List MapEntry×Nat)}{d e:List (List (κ×β))}(f:P.underlying t=some (.slice T)) (i:mc P T Bf sd 1 bytes) (j:sd.length=1)
  (hs:Ya fr s v) (l:Ya fr x (.slice (some ⟨b,0,none⟩) 1 c)) (m:ha μ w0 w rs) (n:Pb rs k (.row v T 1 d.length (Oh ms))) (o:aj w b 0 [.map (some cm)]) (p:app d [([]:List (κ×β))]=some e) (q:bytes≤4096)
  (h:∀ a w' rs',oc rs k (.row a T 1 e.length (Oh ms++[.map (some cm)])) rs'→ha μ w0 w' rs'→bh fr dst a fun sa=>K sa ds w') :
  Gd P (Oper.mk dst (.call { callee:=.builtin .append,args:=#[s,x],argTypes:=#[t,t] }) ty pos after g) fr ds w K Q:=by
 obtain ⟨r,u⟩:=sw p;refine Hp f i (by simp [j]) hs l m n o rfl rfl ⟨u,q⟩ fun a w' rs' y=>h a w' rs' (by rw [r];exact y)
theorem _root_.Go.yb.Sep.aL {pre:List kb}{ms:List (Nat×List MapEntry×Nat)}{b c:Nat}{es:List MapEntry}(a:ha μ w0 w (pre++(.map b es c::(wh ms++rs)))):ha μ w0 w (pre++(wh (ms++[(b,es,c)])++rs)):=by
 rw [kE];exact a
theorem lE (ms:List (Nat×List MapEntry×Nat)) (b c:Nat) (es:List MapEntry):Oh ms++[.map (some b)]=Oh (ms++[(b,es,c)]):=by simp [Oh]
theorem _root_.Go.yb.Sep.JD {pre:List kb}{ms:List (Nat×List MapEntry×Nat)}{j:Nat}(a:ha μ w0 w (pre++(wh ms++rs))):ha μ w0 w (pre++(wh (ms.take j)++rs)):=by
 have c:(pre++(wh (ms.take j)++rs)).Sublist (pre++(wh ms++rs)):=by
  refine (List.Sublist.refl pre).append (List.Sublist.append ?_ (List.Sublist.refl rs));unfold wh;exact ((List.take_sublist j ms).map _).reverse
 refine ⟨a.keeps,fun r d=>a.all r (c.subset d),(c.filterMap _).nodup a.ki,fun b e=>a.new b ((c.filterMap _).subset e),?_⟩;refine a.Gi.mono fun k _ hs=>⟨hs.1,fun hm=>hs.2 ((c.filterMap kb.block).subset hm)⟩
theorem Row.sD {v:Value}{sz:Nat}{xs:List Value}{j:Int}(h:Row w v T sz n xs) (d:0≤j) (q:j≤n) :
  ∃ a,iq v sz none (some j) a∧a.ownBlock=v.ownBlock∧∀ w T,Row w v T sz n xs→Row w a T sz j.toNat (xs.take (j.toNat*sz)):=by
 have b:∀ w T,Row w v T sz n xs→(xs.take (j.toNat*sz)).length=j.toNat*sz:=fun w T h=>by
  rw [List.length_take,h.1];exact Nat.min_eq_left (Nat.mul_le_mul_right _ (by omega))
 rcases h.2 with ⟨rfl,rfl⟩ | ⟨g,o,cap,cur,rfl,r,s,t,u,x⟩
 ·have:j=0:=by omega
  subst this;exact ⟨.slice none 0 0,⟨none,0,0,rfl,by simp,by simp,by simp,by simp⟩,rfl,fun w T h=>⟨b w T h,.inl ⟨rfl,rfl⟩⟩⟩
 ·refine ⟨.slice (some ⟨g,o,none⟩) j.toNat cap,⟨_,_,_,rfl,by simp,by simpa using d,by simp;omega,?_⟩,rfl,fun e f c=>⟨b e f c,.inr ?_⟩⟩
  ·simp [Ij]
  ·rcases c.2 with ⟨Wa,_⟩ | ⟨y,o',z,i,Wa,k,k1,l,m,p⟩
   ·simp at Wa
   ·simp at Wa;obtain ⟨⟨rfl,rfl⟩,rfl⟩:=Wa;exact ⟨g,o,cap,i,rfl,k,by omega,l,m,by rw [← p,List.take_take,Nat.min_eq_left (Nat.mul_le_mul_right _ (by omega))]⟩
theorem Row.cutFrom {v:Value}{sz:Nat}{xs:List Value}{i:Int}(h:Row w v T sz n xs) (f:0≤i) (Ua:i≤n) :
  ∃ a,iq v sz (some i) none a∧a.ownBlock=v.ownBlock∧∀ w T,Row w v T sz n xs→Row w a T sz (n - i.toNat) (xs.drop (i.toNat*sz)):=by
 have c:∀ w T,Row w v T sz n xs→(xs.drop (i.toNat*sz)).length=(n - i.toNat)*sz:=fun w T h=>by
  rw [List.length_drop,h.1,Nat.sub_mul]
 rcases h.2 with ⟨rfl,rfl⟩ | ⟨g,o,cap,cur,rfl,m,p,q,r,s⟩
 ·have:i=0:=by omega
  subst this;exact ⟨.slice none 0 0,⟨none,0,0,rfl,by simp,by simp,by simp,by simp⟩,rfl,fun w T h=>⟨c w T h,.inl ⟨rfl,by simp⟩⟩⟩
 ·refine ⟨_,⟨_,_,_,rfl,by simpa using f,by simpa using Ua,by simp;omega,rfl⟩,by simp only [Option.getD_some];split<;>simp [Value.ownBlock,Ij],fun j k b=>⟨c j k b,.inr ?_⟩⟩;rcases b.2 with ⟨Wa,_⟩ | ⟨t,o',u,d,Wa,e,k1,x,y,l⟩
  ·simp at Wa
  ·simp at Wa;obtain ⟨⟨rfl,rfl⟩,rfl⟩:=Wa;have hmul:i.toNat*sz+(cap - i.toNat)*sz=cap*sz:=by rw [← Nat.add_mul];congr 1;omega
   by_cases hc:cap=i.toNat
   ·refine ⟨g,o,cap - i.toNat,d,by simp [hc],e,by omega,by omega,by omega,?_⟩;rw [show n - i.toNat=0 by omega,Nat.zero_mul,List.take_zero,List.drop_eq_nil_of_le (by rw [b.1];exact Nat.mul_le_mul_right _ (by omega))]
   ·refine ⟨g,o+i.toNat*sz,cap - i.toNat,d,by simp [hc,Ij],e,by omega,by omega,by omega,?_⟩;rw [← l,← List.drop_drop,List.drop_take,Nat.sub_mul]
theorem na.drop {α:Type}[Ha α]:∀ {l:List α}{cells:List Value}(i:Nat),na μ cells l→na μ (cells.drop (i*Ha.sz α)) (l.drop i)
 | [],cells,i,h=>by rw [na] at h; subst h; simp [na]
 | x::l,cells,0,h=>by simpa using h
 | x::l,cells,i+1,h=>by
  rw [na] at h;obtain ⟨cs,t,rfl,a,b⟩:=h;have e:(i+1)*Ha.sz α=cs.length+i*Ha.sz α:=by rw [Nat.add_mul,Ha.Dg a];omega
  rw [e,← List.drop_drop];simpa using na.drop i b
theorem Row.KD {α:Type}[Ha α]{v:Value}{cells:List Value}{l b:List α}{i:Int}(h:Row w v T (Ha.sz α) l.length cells) (hm:na μ cells l) (g:cut l i l.length=some b) :
  ∃ a c,iq v (Ha.sz α) (some i) none a∧a.ownBlock=v.ownBlock∧(∀ w T,Row w v T (Ha.sz α) l.length cells→Row w a T (Ha.sz α) b.length c)∧na μ c b:=by
 obtain ⟨⟨d,e,m⟩,rfl⟩:=Ar g;obtain ⟨a,qa,f,j⟩:=Row.cutFrom h d e;refine ⟨a,cells.drop (i.toNat*Ha.sz α),qa,f,fun w T k=>?_,by simpa using hm.drop i.toNat⟩;have:=j w T k;simpa using this
theorem Row.VL {v:Value}{ms:List (Nat×List MapEntry×Nat)}{a c:List (List (κ×β))}{j:Int}(h:Row w v T 1 a.length (Oh ms)) (hm:Kg μ ms a) (g:cut a 0 j=some c) :
  ∃ b d,iq v 1 none (some j) b∧b.ownBlock=v.ownBlock∧(∀ w T,Row w v T 1 a.length (Oh ms)→Row w b T 1 c.length (Oh d))∧Kg μ d c∧ms.take j.toNat=d:=by
 obtain ⟨⟨m,e,f⟩,rfl⟩:=Ar g;obtain ⟨b,qa,i,k⟩:=Row.sD h e f;refine ⟨b,ms.take j.toNat,qa,i,fun w T l=>?_,by simpa using hm.take j.toNat,rfl⟩;have:=k w T l;have el:((a.take j.toNat).drop (0:Int).toNat).length=j.toNat:=by simp;omega
 rw [el];have Fa:Oh (ms.take j.toNat)=(Oh ms).take (j.toNat*1):=by simp [Oh]
 rw [Fa];exact this
theorem _root_.Go.yb.Sep.perm {S Ad:Nat→Prop}{A:World→Prop}(h:Sep S Ad w0 w rs A) (a:rs.Perm rs'):Sep S Ad w0 w rs' A where
 keeps:=h.keeps
 all r c:=h.all r (a.mem_iff.2 c)
 ki:=(a.filterMap _).nodup_iff.1 h.ki
 new b d:=h.new b ((a.filterMap _).mem_iff.2 d)
 Gi:=h.Gi.mono fun k _ hs=>⟨hs.1,fun hm=>hs.2 ((a.filterMap kb.block).mem_iff.2 hm)⟩
theorem _root_.Go.yb.Sep.jf {a p M R:List kb}(h:ha μ w0 w (a++(p++(M++R)))):ha μ w0 w (a++(M++(p++R))):=
 h.perm (List.Perm.append_left a (by
  rw [← List.append_assoc,← List.append_assoc];exact List.Perm.append_right R List.perm_append_comm))
theorem _root_.Go.yb.Sep.gu {k:Nat}{v c:Value}{sz d:Nat}{xs e:List Value}{S Ad:Nat→Prop}{A:World→Prop}(a:Sep S Ad w0 w rs A) (f:Pb rs k (.row v T sz n xs)) (l:c.ownBlock=v.ownBlock) (m:∀ w T,Row w v T sz n xs→Row w c T sz d e) (g:oc rs k (.row c T sz d e) rs'):Sep S Ad w0 w rs' A:=by
 have h:Row w v T sz n xs:=a.get f;cases Wa:v.ownBlock with
 | some b=>exact a.put (b:=b) (r:=.row v T sz n xs) (r':=.row c T sz d e) f Wa (l.trans Wa) g (m _ _ h) (Eh.refl _)
 | none =>
  unfold oc at g;subst g;have j:=gB (r':=.row c T sz d e) f (show c.ownBlock=v.ownBlock from l);refine ⟨a.keeps,fun r o=>?_,by rw [j];exact a.ki,by rw [j];exact a.new,by rw [j];exact a.Gi⟩;obtain ⟨i,Ua⟩:=List.mem_iff_getElem?.1 o;rw [List.getElem?_set] at Ua;split at Ua
  ·split at Ua
   ·cases Ua;exact m _ _ h
   ·cases Ua
  ·exact a.all r (List.mem_of_getElem? Ua)
end
end Go.kc
namespace Go.kc
open Go.yb Go.RowKit
theorem Ob {P : Program} {f : FuncId} {fn : Func} (a : P.funcs[f]? = some fn) (b : fn.body.isSome = true := by rfl) (c : (fn.name == "runtime.NumGoroutine") = false := by kernel_rfl) : Fb P f := JH a b c
theorem Od {P : Program}{T : TypeId}{d : TypeDesc}{Bf : Bool}{z : Value}{sd : List Value}{n m : Nat}(hu : P.underlying T = some d) (a : lx d = Bf := by rfl) (h : (P.info? T).map (fun i => (i.zero, i.size, i.bytes)) = some (some z, n, m):= by kernel_rfl) (b : z.cells = ⟨sd⟩ := by rfl) : mc P T Bf sd n m := WK hu a h b
end Go.kc
namespace Go.kc
open Go.yb Go.RowKit
theorem Vk {v:Value}{l:List Value}(h:xe v=true) (k:l.all xe=true):(v::l).all xe=true:=by simp [h,k]
theorem Zr:([]:List Value).all xe=true:=rfl
theorem TA (A vs:List Value) (o q N:Nat) (b:q+vs.length≤N) (c:o+N≤A.length):((A.take (o+q)++vs++A.drop (o+q+vs.length)).drop o).take N=((A.drop o).take N).take q++vs++((A.drop o).take N).drop (q+vs.length):=by
 apply List.ext_getElem?;intro j;simp only [List.getElem?_take,List.getElem?_drop,List.getElem?_append,List.length_append,List.length_take,List.length_drop];have qa:min (o+q) A.length=o+q:=by omega
 have a:min q (min N (A.length - o))=q:=by omega
 rw [qa,a];by_cases c1:j<q
 ·have c2:j<N:=by omega
  have c3:j<q+vs.length:=by omega
  simp [c1,c2,c3,show o+j<o+q by omega,show o+j<o+q+vs.length by omega]
 ·by_cases c2:j<q+vs.length
  ·rw [if_pos (by omega),if_pos (by omega),if_neg (by omega),if_pos (by omega),if_neg (by omega)];congr 1;omega
  ·by_cases c3:j<N
   ·rw [if_pos c3,if_neg (by omega),if_neg (by omega),if_pos (by omega)];congr 1;omega
   ·rw [if_neg c3,if_neg (by omega),if_neg (by omega)]
section
variable {P:Program}{Q:Exit→Act→World→Prop}{K:List Value→List Deferred→World→Prop}{fr sa:List Value}{ds:List Deferred}{w:World}
variable {dst:Option Tmp}{ty:TypeId}{pos:String}{after:Array Edge}{g:Option (Nat×Bool)}
variable {w0:World}{rs rs':List kb}{μ I:M}
variable {T:TypeId}{d:TypeDesc}{Bf:Bool}{sd:List Value}{n m:Nat}
theorem Km {x y:Operand}{b o off sz len k:Nat}{i:Int}{v e:Value}{vs xs f:List Value}{a:TypeId}{S Ad:Nat→Prop}{A:World→Prop}(s:mc P T Bf sd n m) (t:Ya fr x (.pointer (some ⟨b,o+off,none⟩))) (u:Ya fr y e) (Wa:e.cells=⟨vs⟩) (z:vs.length=n) (B:vs.all xe=true)
  (j:Sep S Ad w0 w rs A) (l:Pb rs k (.row v a sz len xs)) (he:oj v sz i b o) (R:off+vs.length≤sz) (C:xs.take (i.toNat*sz+off)++vs++xs.drop (i.toNat*sz+off+vs.length)=f) (D:oc rs k (.row v a sz len f) rs')
  (Na:Xe fr dst undef sa) (h:∀ w',Sep S Ad w0 w' rs' A→K sa ds w'):Gd P (Oper.mk dst (.store T x y) ty pos after g) fr ds w K Q:=by
 have F:Row w v a sz len xs:=j.get l;obtain ⟨c,Td,c0,rfl,U,W,rfl⟩:=he.out;obtain ⟨hlen,d⟩:=F;rcases d with ⟨d,-⟩ | ⟨X,o',cap,cur,d,G,p,H,Y,L⟩
 ·cases d
 ·cases d;have Ua:i.toNat<len:=by omega
  have hmul:(i.toNat+1)*sz≤len*sz:=Nat.mul_le_mul_right _ Ua;have Z:len*sz≤c0*sz:=Nat.mul_le_mul_right _ p;have gc:(i.toNat+1)*sz=i.toNat*sz+sz:=Nat.succ_mul ..;have q:ji w b a cur.toList:=G;have hle:(c+i.toNat*sz+off)+0+vs.length≤(⟨cur.toList⟩:Array Value).size:=by simp;omega
  have r:=run_storeCells_at P b (c+i.toNat*sz+off) a vs 0 ⟨cur.toList⟩ w q hle fun v Wa=>Qv (List.all_eq_true.1 B v Wa);have qa:e.cells.toList=vs:=by rw [Wa]
  have M:¬ (e.cells.size≠n):=by rw [Wa];simpa using z
  have N:=s.sizeOf (w:=w);simp only [Nat.add_zero] at r;have O:Eh (fun k=>k≠b) w (w.setRow b (cur.toList.take (c+i.toNat*sz+off)++vs++cur.toList.drop (c+i.toNat*sz+off+vs.length)).toArray):=⟨rfl,rfl,rfl,by simp [World.setRow],fun k hc hs=>setRow_other w b k _ hs⟩;refine mA ?_ Na (h _ (j.put (b:=b) l rfl rfl D ?_ O))
  ·simp only [execOp,Instr.storeAt,t ds,u ds,Instr.sureAddr,storeVar,Sem.run_bind,N,Result.andThen_ok,if_neg M,qa,r,Sem.run_pure]
  ·subst C;refine ⟨by simp [hlen];omega,.inr ⟨b,c,c0,_,rfl,setRow_heap w b ⟨cur.toList⟩ _ a (0,0) q,p,H,?_,?_⟩⟩
   ·simp;omega
   ·subst L;have:=TA cur.toList vs c (i.toNat*sz+off) (len*sz) (by omega) (by simp;omega);rw [← Nat.add_assoc] at this;exact this
class dm (α β:Type) [Ha α] [Ha β] where
 code:α→List β
 set:α→List β→α
 Na:M→List Value→α→Prop
 up:∀ {μ I:M}{l:List Value}{x:α},da μ I→Na μ l x→Na I l x
 Dg:∀ {μ:M}{l:List Value}{x:α},Na μ l x→l.length+1=Ha.sz α
 wr:∀ {μ:M}{l:List Value}{x:α}{ys:List β}{a:Option Addr}{c:Nat},Na μ l x→Ba μ a c ys→Ha.cs μ (l++[.slice a ys.length c]) (set x ys)
 st:∀ {μ:M}{l:List Value}{x:α}{ys:List β},Na μ l x→Na μ l (set x ys)
 ak:∀ {x:α},set x (code x)=x
 cs:∀ {x:α}{ys:List β},code (set x ys)=ys
variable {α β:Type}[Ha α] [Ha β] [dm α β]
end
end Go.kc
namespace Go.yb
open Go.RowKit
section
variable {P:Program}{Q:Exit→Act→World→Prop}{ops:Array Oper}{fr sa:List Value}{ds:List Deferred}{w:World}
end
end Go.yb
namespace Go.yb
open Go.RowKit
section
variable {P:Program}{Q:Exit→Act→World→Prop}{ops:Array Oper}{fr sa:List Value}{ds:List Deferred}{w:World}
abbrev Mon:=List Nat×(World→Prop)
def Ph (i:Nat) (pc:List Mon):List Mon:=pc.filter fun m=>!m.1.contains i
def Pa:List Mon→World→Prop
 | [],_=>True
 | m::l,w=>m.2 w∧Pa l w
theorem Pa.mem {pc:List Mon}{w:World}:Pa pc w ↔ ∀ m ∈ pc,m.2 w:=by
 induction pc with
 | nil=>simp [Pa]
 | cons m l a=>simp [Pa,a]
theorem Pa.sub {pc Ns':List Mon}(h:Pa pc w) (hs:∀ m ∈ Ns',m ∈ pc):Pa Ns' w:=Pa.mem.2 fun m hm=>Pa.mem.1 h m (hs m hm)
theorem yw {i:Nat}{pc:List Mon}:∀ m ∈ Ph i pc,m ∈ pc:=fun m hm=>(List.mem_filter.1 hm).1
theorem Sv {i:Nat}{pc Ns':List Mon}(h:∀ m ∈ Ns',m ∈ pc):∀ m ∈ Ph i Ns',m ∈ Ph i pc:=fun m hm=>List.mem_filter.2 ⟨h m (List.mem_filter.1 hm).1,(List.mem_filter.1 hm).2⟩
def Pg (P:Program) (ops:Array Oper) (Q:Exit→Act→World→Prop):List Mon→List Nat→Act→World→Prop
 | _,[],a,w=>Q .normal a w
 | pc,i::rest,a,w =>
  match ops[i]? with
  | none=>Pg P ops Q (Ph i pc) rest a w
  | some o =>
   if Region.wanted o (yielded ops a.tmps) then o.wp P a w (fun a w=>Pa (Ph i pc) w∧Pg P ops Q (Ph i pc) rest a w) Q∨(o.asks P a w∧LetsOut Q)
   else Pg P ops Q (Ph i pc) rest (a.put o.dst undef) w
theorem wz {o:Oper}{a:Act}{K c:Act→World→Prop}(h:o.wp P a w K Q) (b:∀ a w,K a w→c a w):o.wp P a w c Q:=by
 unfold Oper.wp at h ⊢;cases d:(execOp a.eval o).run P w with
 | halt e w'=>rw [d] at h; cases e <;> exact h
 | ok r w' =>
  rw [d] at h;cases r with
  | value x=>exact b _ _ h
  | skip=>exact b _ _ h
  | defer i=>exact b _ _ h
  | enter f args =>
   rw [Oper.upon_enter] at h ⊢;refine Calls.mono h fun e g he=>?_;cases e with
   | returned x=>exact b _ _ he
   | panicked j=>exact he
   | outgrown=>exact he
  | row r args =>
   rw [Oper.upon_row] at h ⊢;exact Rows.mono h fun x g he=>b _ _ he
  | _=>exact h
theorem Pg.mono:∀ (b:List Nat){pc Ns':List Mon}{a:Act}{w:World},Pg P ops Q pc b a w→(∀ m ∈ Ns',m ∈ pc)→Pg P ops Q Ns' b a w
 | [],_,_,_,_,h,_=>h
 | i::b,pc,Ns',a,w,h,hs=>by
  simp only [Pg] at h ⊢;cases c:ops[i]? with
  | none=>rw [c] at h; exact Pg.mono b h (Sv hs)
  | some o =>
   rw [c] at h;simp only at h ⊢;split
   ·rename_i hw;rw [if_pos hw] at h;rcases h with h | h
    ·exact .inl (wz h fun a w ⟨d,e⟩=>⟨d.sub (Sv hs),Pg.mono b e (Sv hs)⟩)
    ·exact .inr h
   ·rename_i hw;rw [if_neg hw] at h;exact Pg.mono b h (Sv hs)
theorem Pg.plain:∀ (b:List Nat){pc:List Mon}{a:Act}{w:World},Pg P ops Q pc b a w→wpOps P ops Q b a w
 | [],_,_,_,h=>h
 | i::b,pc,a,w,h=>by
  simp only [Pg] at h;simp only [wpOps];cases c:ops[i]? with
  | none=>rw [c] at h; exact Pg.plain b h
  | some o =>
   rw [c] at h;simp only at h ⊢;split
   ·rename_i hw;rw [if_pos hw] at h;rcases h with h | h
    ·exact .inl (wz h fun a w ⟨_,d⟩=>Pg.plain b d)
    ·exact .inr h
   ·rename_i hw;rw [if_neg hw] at h;exact Pg.plain b h
theorem qA {N:World→Prop}{S:List Nat}{i d:Nat}(q:di Q d){o:Oper}{v:Value}(z:ops[i]?=some o) (Na:o.dst=some d){wt:Bool}(A:wt=false→v=undef) :
  ∀ (a b:List Nat) (fr:List Value) (ds:List Deferred) (w:World) (pc:List Mon),
   (∀ j ∈ a,j ∉ S∧match ops[j]? with
    | some p=>yk p.op=true∧(reads ops p).contains d=false∧p.dst≠some d∧(∀ e,p.dst=some e→(reads ops o).contains e=false)
    | none=>True) →
   N w→Pa pc w→yk o.op=true→Region.wanted o (yielded ops (F fr ds).tmps)=wt →
   (wt=true→∀ ds w,N w→(execOp (F fr ds).eval o).run P w=.ok (.value v) w) →
   Pg P ops Q ((S,N)::pc) (a++b) (F (fr.set d v) ds) w→Pg P ops Q pc (a++i::b) (F fr ds) w
 | [],b,fr,ds,w,pc,_,hw,s,t,c,u,h=>by
  simp only [List.nil_append] at h ⊢;have h:=Pg.mono b h (Ns':=Ph i pc) fun m hm=>List.mem_cons_of_mem _ (yw m hm);simp only [Pg,z];cases wt with
  | true =>
   rw [if_pos c];left;unfold Oper.wp;rw [u rfl ds w hw,Oper.upon_value,Na];rw [show (F fr ds).put (some d) v=F (fr.set d v) ds from ia rfl ds];exact ⟨s.sub yw,h⟩
  | false =>
   rw [if_neg (by rw [c];simp),Na,← A rfl];rw [show (F fr ds).put (some d) v=F (fr.set d v) ds from ia rfl ds];exact h
 | j::a,b,fr,ds,w,pc,K,hw,s,t,c,u,h=>by
  obtain ⟨W,B⟩:=K j (by simp);have L:∀ k ∈ a,_:=fun k l=>K k (by simp [l]);have X:Ph j ((S,N)::pc)=(S,N)::Ph j pc:=by simp [Ph,W]
  simp only [List.cons_append,Pg,X] at h ⊢;cases M:ops[j]? with
  | none =>
   rw [M] at h;simp only at h ⊢;exact qA q z Na A a b fr ds w _ L hw (s.sub yw) t c u h
  | some p =>
   rw [M] at h B;simp only at h B ⊢;obtain ⟨O,C,Y,R⟩:=B;rw [my (fr:=fr) (v:=v) (ds:=ds) (ds':=ds) C] at h;have key:∀ (x:Value) (w':World) (ds':List Deferred),N w'→Pa (Ph j pc) w'→Pg P ops Q ((S,N)::Ph j pc) (a++b) ((F (fr.set d v) ds').put p.dst x) w'→Pg P ops Q (Ph j pc) (a++i::b) ((F fr ds').put p.dst x) w':=by
    intro x w' ds' Z gc l;obtain ⟨g,g1,g2,g3⟩:=put_eq fr ds' p.dst x;have hc:=wanted_put (ops:=ops) (o:=o) (p:=p) (ds':=ds') (fun y D=>g3 fr y ds' ds' D) R;rw [g1] at l ⊢;rw [g2 _ _ _ Y] at l;refine qA q z Na A a b (g fr) ds' w' _ L Z gc t (hc.trans c) (fun lc n rc fd=>?_) l;rw [show execOp (F (g fr) n).eval o=execOp (F fr n).eval o from execOp_congr o t fun y D=>g3 fr y n n fun e he hs=>by
     exact Rv (R e he) y D hs]
    exact u lc n rc fd
   by_cases T:Region.wanted p (yielded ops (F fr ds).tmps)=true
   ·rw [if_pos T] at h ⊢;rcases h with h | h
    ·left;unfold Oper.wp at h ⊢;rw [ir (ds':=ds) O C] at h;cases U:(execOp (F fr ds).eval p).run P w with
     | halt e w' =>
      rw [U] at h;cases e<;>first | exact h | exact q _ _ _ _ _ h
     | ok r w' =>
      rw [U] at h;cases r with
      | value x=>exact ⟨h.1.2,key x w' ds h.1.1 h.1.2 h.2⟩
      | skip=>exact ⟨h.1.2,key undef w' ds h.1.1 h.1.2 h.2⟩
      | defer id=>exact ⟨h.1.2,key undef w' (id::ds) h.1.1 h.1.2 h.2⟩
      | enter f args =>
       rw [Oper.upon_enter] at h ⊢;refine Calls.mono h fun e G he=>?_;cases e with
       | returned x=>exact ⟨he.1.2,key x G ds he.1.1 he.1.2 he.2⟩
       | panicked md=>exact q _ _ _ _ _ he
       | outgrown=>exact he
      | row r args =>
       rw [Oper.upon_row] at h ⊢;exact Rows.mono h fun x G he=>⟨he.1.2,key x G ds he.1.1 he.1.2 he.2⟩
      | _=>exact h
    ·right;refine ⟨?_,h.2⟩;have H:=h.1;unfold Oper.asks at H ⊢;rw [ir (ds':=ds) O C] at H;exact H
   ·rw [if_neg T] at h ⊢;exact key undef w ds hw (s.sub yw) h
structure bf (P:Program) (ops:Array Oper) (Q:Exit→Act→World→Prop) (pc:List Mon) (R:List Nat) (fr:List Value) (ds:List Deferred) (w:World):Prop where
 out:Pa pc w→∀ a,Sk ops R a→Pg P ops Q pc a (F fr ds) w
theorem Ed {R:List Nat}(h:bf P ops Q [] R fr ds w):Ai P ops Q R fr ds w:=⟨fun a b=>Pg.plain a (h.out trivial a b)⟩
theorem cd {pc:List Mon}(h:Q .normal (F fr ds) w):bf P ops Q pc [] fr ds w:=⟨fun _ b a=>by
 cases a with
 | z=>exact h
 | s h _=>exact absurd (Dm h) (by simp)⟩
def wk (ops:Array Oper) (S R:List Nat) (i:Nat):Bool :=
 match ops[i]? with
 | some o=>match o.dst with
  | some d=>yk o.op && R.all fun j=>S.contains j || (match ops[j]? with
    | some p=>yk p.op && !(reads ops p).contains d && p.dst != some d && (match p.dst with | some e=>!(reads ops o).contains e | none=>true)
    | none=>true)
  | _=>false
 | none=>false
theorem kr {pc:List Mon}{R R':List Nat}{i:Nat}(S:List Nat) (N:World→Prop){wt:Bool}{dst:Tmp}{op:Op}{ty:TypeId}{pos:String}{after:Array Edge}{l:Option (Nat×Bool)}{v:Value}(C:di Q dst) (m:(decide R.Nodup && enabled ops R i && waits ops R S i && wk ops S R i && S.contains i)=true) (D:R.erase i=R') (n:ops[i]?=some ⟨some dst,op,ty,pos,after,l⟩)
  (G:Region.wanted ⟨some dst,op,ty,pos,after,l⟩ (yielded ops (F fr ds).tmps)=wt) (H:wt=false→v=undef) (o:N w)
  (Wa:wt=true→∀ ds w',N w'→(execOp (F fr ds).eval ⟨some dst,op,ty,pos,after,l⟩).run P w'=.ok (.value v) w') (f:oc fr dst v sa) (h:bf P ops Q ((S,N)::pc) R' sa ds w):bf P ops Q pc R fr ds w:=⟨fun q W r=>by
 simp only [Bool.and_eq_true,decide_eq_true_eq] at m;obtain ⟨⟨⟨⟨s,t⟩,u⟩,g⟩,-⟩:=m;obtain ⟨x,y,rfl,K,z⟩:=r.split s (Dm t) t;have A:=Sk.later (S:=S) r s (fun j d=>by
  unfold waits at u;have:=List.all_eq_true.1 u j d;simp only [Bool.or_eq_true,beq_iff_eq,List.any_eq_true,Bool.and_eq_true,List.contains_iff_mem] at this;rcases this with h | ⟨k,k1,L,M⟩
  ·exact .inl h
  ·exact .inr ⟨k,k1,L,M⟩) x y rfl (fun hm=>(z i hm).2.1 rfl)
 unfold wk at g;simp only [n,Bool.and_eq_true,List.all_eq_true,Bool.or_eq_true,List.contains_iff_mem] at g;unfold oc at f;subst f;subst D;refine qA C n rfl H (N:=N) (S:=S) (v:=v) x y fr ds w pc (fun j d=>⟨A j d,?_⟩) o q g.1 G Wa (h.out ⟨o,q⟩ _ K);obtain ⟨a,b,c⟩:=z j d;have:=g.2 j a;rcases this with h | h
 ·exact absurd h (A j d)
 ·cases f:ops[j]? with
  | none=>trivial
  | some p =>
   rw [f] at h;simp only [Bool.and_eq_true,Bool.not_eq_true',bne_iff_ne,ne_eq] at h;obtain ⟨⟨⟨O,T⟩,U⟩,B⟩:=h;refine ⟨O,T,U,fun e he=>?_⟩;rw [he] at B;simpa using B⟩
theorem Ml {pc:List Mon}{R R':List Nat}{i:Nat}(S:List Nat){dst:Tmp}{op:Op}{ty:TypeId}{pos:String}{after:Array Edge}{v:Value}(a:di Q dst) (b:(decide R.Nodup && enabled ops R i && waits ops R S i && wk ops S R i && S.contains i)=true) (c:R.erase i=R') (d:ops[i]?=some ⟨some dst,op,ty,pos,after,none⟩)
  (Wa:yl P ⟨some dst,op,ty,pos,after,none⟩ fr w v) (e:oc fr dst v sa) (h:bf P ops Q ((S,fun w'=>yl P ⟨some dst,op,ty,pos,after,none⟩ fr w' v)::pc) R' sa ds w):bf P ops Q pc R fr ds w :=
 kr S _ (wt:=true) a b c d (Wb rfl) (fun h=>by cases h) Wa (fun _ ds w' hw=>hw.out ds) e h
theorem Xt {pc:List Mon}{R R':List Nat}{i j d:Nat}{b:Bool}(S:List Nat){dst:Tmp}{op:Op}{ty:TypeId}{pos:String}{after:Array Edge}{v:Value}(a:di Q dst) (c:(decide R.Nodup && enabled ops R i && waits ops R S i && wk ops S R i && S.contains i)=true) (e:R.erase i=R') (f:ops[i]?=some ⟨some dst,op,ty,pos,after,some (j,b)⟩) (g:(ops[j]?).bind (·.dst)=some d) (k:Pb fr d (.bool b))
  (Wa:yl P ⟨some dst,op,ty,pos,after,some (j,b)⟩ fr w v) (l:oc fr dst v sa) (h:bf P ops Q ((S,fun w'=>yl P ⟨some dst,op,ty,pos,after,some (j,b)⟩ fr w' v)::pc) R' sa ds w):bf P ops Q pc R fr ds w :=
 kr S _ (wt:=true) a c e f (jr rfl g k) (fun h=>by cases h) Wa (fun _ ds w' hw=>hw.out ds) l h
theorem Pg.add {m:Mon}(c:∀ w,m.2 w):∀ (b:List Nat){pc:List Mon}{a:Act}{w:World},Pg P ops Q pc b a w→Pg P ops Q (m::pc) b a w
 | [],_,_,_,h=>h
 | i::b,pc,a,w,h=>by
  have hs:Ph i (m::pc)=m::Ph i pc∨Ph i (m::pc)=Ph i pc:=by
   unfold Ph;rw [List.filter_cons];split
   ·exact .inl rfl
   ·exact .inr rfl
  have key:∀ {a w},Pg P ops Q (Ph i pc) b a w→Pg P ops Q (Ph i (m::pc)) b a w:=fun h=>by
   rcases hs with e | e<;>rw [e]
   ·exact Pg.add c b h
   ·exact h
  have f:∀ {w},Pa (Ph i pc) w→Pa (Ph i (m::pc)) w:=fun h=>by
   rcases hs with e | e<;>rw [e]
   ·exact ⟨c _,h⟩
   ·exact h
  simp only [Pg] at h ⊢;cases d:ops[i]? with
  | none=>rw [d] at h; exact key h
  | some o =>
   rw [d] at h;simp only at h ⊢;split
   ·rename_i hw;rw [if_pos hw] at h;rcases h with h | h
    ·exact .inl (wz h fun a w ⟨g,j⟩=>⟨f g,key j⟩)
    ·exact .inr h
   ·rename_i hw;rw [if_neg hw] at h;exact key h
theorem Kw {pc:List Mon}{m:Mon}{R:List Nat}(b:∀ w,m.2 w) (h:bf P ops Q pc R fr ds w):bf P ops Q (m::pc) R fr ds w:=⟨fun c a d=>Pg.add b a (h.out c.2 a d)⟩
theorem pf {pc:List Mon}{R R':List Nat}{i:Nat}(S:List Nat){dst:Tmp}{op:Op}{ty:TypeId}{pos:String}{after:Array Edge}{v:Value}(a:di Q dst) (b:(decide R.Nodup && enabled ops R i && waits ops R S i && wk ops S R i && S.contains i)=true) (c:R.erase i=R') (d:ops[i]?=some ⟨some dst,op,ty,pos,after,none⟩)
  (Wa:Ke P ⟨some dst,op,ty,pos,after,none⟩ fr v) (e:oc fr dst v sa) (h:bf P ops Q pc R' sa ds w):bf P ops Q pc R fr ds w :=
 kr S (fun _=>True) (wt:=true) a b c d (Wb rfl) (fun h=>by cases h) trivial (fun _ ds w' _=>Wa.out ds w') e (Kw (fun _=>trivial) h)
theorem yj {pc:List Mon}{R R':List Nat}{i j d:Nat}{b:Bool}(S:List Nat){dst:Tmp}{op:Op}{ty:TypeId}{pos:String}{after:Array Edge}{v:Value}(a:di Q dst) (c:(decide R.Nodup && enabled ops R i && waits ops R S i && wk ops S R i && S.contains i)=true) (e:R.erase i=R') (f:ops[i]?=some ⟨some dst,op,ty,pos,after,some (j,b)⟩) (g:(ops[j]?).bind (·.dst)=some d) (k:Pb fr d (.bool b))
  (Wa:Ke P ⟨some dst,op,ty,pos,after,some (j,b)⟩ fr v) (l:oc fr dst v sa) (h:bf P ops Q pc R' sa ds w):bf P ops Q pc R fr ds w :=
 kr S (fun _=>True) (wt:=true) a c e f (jr rfl g k) (fun h=>by cases h) trivial (fun _ ds w' _=>Wa.out ds w') l (Kw (fun _=>trivial) h)
theorem ff {pc:List Mon}{R R':List Nat}{i j d:Nat}{b jg:Bool}(S:List Nat){dst:Tmp}{op:Op}{ty:TypeId}{pos:String}{after:Array Edge}(a:di Q dst) (c:(decide R.Nodup && enabled ops R i && waits ops R S i && wk ops S R i && S.contains i)=true) (e:R.erase i=R') (f:ops[i]?=some ⟨some dst,op,ty,pos,after,some (j,b)⟩) (g:(ops[j]?).bind (·.dst)=some d) (k:Pb fr d (.bool jg)) (l:(jg == b)=false)
  (m:oc fr dst undef sa) (h:bf P ops Q pc R' sa ds w):bf P ops Q pc R fr ds w :=
 kr S (fun _=>True) (wt:=false) a c e f ((RB rfl g k).trans l) (fun _=>rfl) trivial (fun h=>by cases h) m (Kw (fun _=>trivial) h)
theorem rJ {pc:List Mon}{R R':List Nat}{i j d:Nat}{b:Bool}(S:List Nat){dst:Tmp}{op:Op}{ty:TypeId}{pos:String}{after:Array Edge}(a:di Q dst) (c:(decide R.Nodup && enabled ops R i && waits ops R S i && wk ops S R i && S.contains i)=true) (e:R.erase i=R') (f:ops[i]?=some ⟨some dst,op,ty,pos,after,some (j,b)⟩) (g:(ops[j]?).bind (·.dst)=some d) (k:Pb fr d undef)
  (l:oc fr dst undef sa) (h:bf P ops Q pc R' sa ds w):bf P ops Q pc R fr ds w :=
 kr S (fun _=>True) (wt:=false) a c e f (xG rfl g k) (fun _=>rfl) trivial (fun h=>by cases h) l (Kw (fun _=>trivial) h)
structure Nx (P:Program) (ops:Array Oper) (Q:Exit→Act→World→Prop) (pc:List Mon) (R:List Nat) (fr:List Value) (ds:List Deferred) (w:World):Prop where
 m:Pa pc w
 s:bf P ops Q pc R fr ds w
theorem Pa.s {m:Mon}{l:List Mon}(h:m.2 w) (k:Pa l w):Pa (m::l) w:=⟨h,k⟩
theorem Pa.z:Pa [] w:=trivial
theorem QC {pc:List Mon}{R:List Nat}(c:R≠[]) (h:∀ i ∈ eu ops R,∃ o,ops[i]?=some o∧Region.wanted o (yielded ops (F fr ds).tmps)=true∧Gd P o fr ds w (Nx P ops Q (Ph i pc) (R.erase i)) Q):bf P ops Q pc R fr ds w:=⟨fun j d e=>by
 cases e with
 | z=>exact absurd rfl c
 | @s _ d i b f =>
  obtain ⟨o,g,hw,Ua⟩:=h i (List.mem_filter.2 ⟨Dm b,b⟩);simp only [Pg,g];rw [if_pos hw];exact .inl (Ua.out _ fun sa ds' w' a=>⟨a.m,a.s.out a.m _ f⟩)⟩
theorem Xb {pc Ns':List Mon}{R:List Nat}{i:Nat}{R':List Nat}{o:Oper}(b:eu ops R=[i]) (c:R.erase i=R') (Na:Ph i pc=Ns') (d:ops[i]?=some o) (hw:Region.wanted o (yielded ops (F fr ds).tmps)=true)
  (h:Gd P o fr ds w (Nx P ops Q Ns' R') Q):bf P ops Q pc R fr ds w :=
 QC (by intro e;subst e;cases b) fun k a=>by
  rw [b] at a;simp at a;subst a;exact ⟨_,d,hw,by rw [c,Na];exact h⟩
theorem nM {pc d f:List Mon}{R:List Nat}{i j:Nat}{g h:List Nat}{a b:Oper}(l:eu ops R=[i,j]) (m:R.erase i=g) (n:R.erase j=h) (o:Ph i pc=d) (p:Ph j pc=f) (Ua:ops[i]?=some a) (q:ops[j]?=some b) (r:Region.wanted a (yielded ops (F fr ds).tmps)=true) (s:Region.wanted b (yielded ops (F fr ds).tmps)=true)
  (t:Gd P a fr ds w (Nx P ops Q d g) Q) (u:Gd P b fr ds w (Nx P ops Q f h) Q):bf P ops Q pc R fr ds w :=
 QC (by intro e;subst e;cases l) fun k c=>by
  rw [l] at c;simp at c;rcases c with rfl | rfl
  ·exact ⟨_,Ua,r,by rw [m,o];exact t⟩
  ·exact ⟨_,q,s,by rw [n,p];exact u⟩
theorem VD {pc:List Mon}{R:List Nat}{Wh Xh:List Value}{d:Nat}{b:Bool}(a:Pb fr d (.bool b)) (c:oc fr d (.bool true) Wh) (e:oc fr d (.bool false) Xh)
  (f:b=true→bf P ops Q pc R Wh ds w) (g:¬ b=true→bf P ops Q pc R Xh ds w):bf P ops Q pc R fr ds w:=by
 cases b with
 | true=>have:=f rfl; rw [oc.same a c] at this; exact this
 | false=>have:=g (by simp); rw [oc.same a e] at this; exact this
theorem LD {pc:List Mon}{R:List Nat}{Wh Xh:List Value}{d:Nat}{p:Prop}[Decidable p] (a:Pb fr d (.bool (decide p))) (b:oc fr d (.bool true) Wh) (c:oc fr d (.bool false) Xh)
  (e:p→bf P ops Q pc R Wh ds w) (f:¬ p→bf P ops Q pc R Xh ds w):bf P ops Q pc R fr ds w :=
 VD a b c (fun h=>e (of_decide_eq_true h)) (fun h=>f fun g=>h (decide_eq_true g))
end
end Go.yb
namespace Go.kc
open Go.yb Go.RowKit
section
variable {P:Program}{Q:Exit→Act→World→Prop}{K:List Value→List Deferred→World→Prop}{fr sa:List Value}{ds:List Deferred}{w:World}
variable {dst:Option Tmp}{ty:TypeId}{pos:String}{after:Array Edge}{g:Option (Nat×Bool)}
variable {w0:World}{rs rs':List kb}{μ I:M}
variable {T:TypeId}{d:TypeDesc}{Bf:Bool}{sd:List Value}{n m:Nat}
theorem sJ {e:TypeId}{S Ad:Nat→Prop}{A:World→Prop}(c:P.underlying T=some (.slice e)) (a:mc P e Bf sd n m) (d:Sep S Ad w0 w rs A)
  (h:∀ b w',w.heap.size≤b→Sep S Ad w0 w' (.ba b e []::rs) A→bh fr dst (.slice (some ⟨b,0,none⟩) 0 0) fun sa=>K sa ds w'):Gd P (Oper.mk dst (.buildSlice T 0 ⟨[]⟩) ty pos after g) fr ds w K Q:=by
 obtain ⟨sa,Na⟩:=Ei fr dst (.slice (some ⟨w.heap.size,0,none⟩) 0 0);refine Th (v:=.slice (some ⟨w.heap.size,0,none⟩) 0 0) (w':=w.alloc (.cells ⟨[]⟩ e)) ?_ Na (h _ _ (Nat.le_refl _) (d.alloc rfl (heap_alloc_new w _)) sa Na);have f:=a.sizeOf (w:=w);obtain ⟨z,i,hc⟩:=a.zero (w:=w);simp [execOp,Instr.buildSlice,Sem.run_bind,run_underlying c,Result.andThen_ok,f,newRow,Instr.fill];have Hb:Array.range 0=#[]:=Array.eq_empty_of_size_eq_zero (by simp);rw [Hb,Array.map_empty]
theorem GA {t ty:TypeId}{sz bytes:Nat}(b:P.underlying t=some (.slice T)) (e:mc P T Bf sd sz bytes){v:Value}{xs:List Value}(f:Row w v T sz n xs){a:Option Addr}{c:Nat} :
  (Builtin.append_ #[t,t] ty #[v,.slice a 0 c]).run P w=.ok v w:=by
 have d:=e.sizeOf (w:=w);rcases f.2 with ⟨rfl,rfl⟩ | ⟨g,o,cap,cur,rfl,i,h,j,k,l⟩
 ·cases a<;>simp [Builtin.append_,run_underlying b,d,Builtin.lenOf,Builtin.firstCells,loadCells,loadCellsFrom]
 ·cases a<;>simp [Builtin.append_,run_underlying b,d,Builtin.lenOf,Builtin.firstCells,h,storeCells,loadCells,loadCellsFrom]
theorem xz {α:Type}[Ha α]{t:TypeId}{s x:Operand}{v:Value}{bytes k c:Nat}{a:Option Addr}{cells news:List Value}{l ys j:List α}(n:P.underlying t=some (.slice T)) (p:mc P T Bf sd (Ha.sz α) bytes) (y:sd.length=Ha.sz α)
  (hs:Ya fr s v) (q:Ya fr x (.slice a ys.length c)) (f:ha μ w0 w rs) (m:Pb rs k (.row v T (Ha.sz α) l.length cells)) (z:ys≠[]→∃ b o,a=some ⟨b,o,none⟩∧Ec μ b o news) (d:na μ news ys) (A:app l ys=some j) (B:bytes≤4096)
  (h:∀ i w' rs',oc rs k (.row i T (Ha.sz α) j.length (cells++news)) rs'→ha μ w0 w' rs'→bh fr dst i fun sa=>K sa ds w') :
  Gd P (Oper.mk dst (.call { callee:=.builtin .append,args:=#[s,x],argTypes:=#[t,t] }) ty pos after g) fr ds w K Q:=by
 obtain ⟨r,C⟩:=sw A;by_cases u:ys=[]
 ·subst u;obtain rfl:news=[]:=d;have D:Row w v T (Ha.sz α) l.length cells:=f.get m;obtain ⟨sa,Na⟩:=Ei fr dst v;have F:=h v w rs (by
   have:j.length=l.length:=by simpa using r
   rw [this,List.append_nil];unfold oc;obtain ⟨G,e⟩:=List.getElem?_eq_some_iff.1 (show rs[k]?=_ from m);rw [← e];exact List.set_getElem_self G) f
  refine Th (v:=v) (w':=w) ?_ Na (F sa Na);have qa:=hs ds;have H:=q ds;have d:=GA (P:=P) (ty:=ty) (a:=a) (c:=c) n p D;simp [execOp,resolve,invoke,builtin,qa,H,d]
 ·obtain ⟨b,o,rfl,L⟩:=z u;exact Hp n p (by simp [y,Ha.pos]) hs q f m (L _ f.a) d.len d.pg ⟨C,B⟩ fun i w' rs' M=>h i w' rs' (by rw [r];exact M)
end
end Go.kc
