/- Texts of Xt. -/
import Derived.Test.YticaondbdmcpoaaGreatDoorCWk
import Derived.LoopN
import Derived.KernelRfl
set_option linter.unusedSimpArgs false
set_option linter.unusedVariables false
set_option linter.unusedSectionVars false
namespace Go.ec
open Go.Rb Go.RowKit
abbrev M:=World→Prop
def ga (μ J:M):Prop:=∀ w,J w→μ w
theorem ga.r {μ:M}:ga μ μ:=fun _ h=>h
theorem ga.t {a b c:M}(h:ga a b) (k:ga b c):ga a c:=fun w x=>h w (k w x)
abbrev ha (μ:M) (ca w:World) (rs:List kb):Prop:=Sep (fun _=>False) (fun _=>True) ca w rs μ
def Aa (μ:M) (b o:Nat) (cs:List Value):Prop:=∀ w,μ w→Nj w b o cs
theorem Aa.up {μ J:M}{b o:Nat}{cs:List Value}(h:Aa μ b o cs) (l:ga μ J):Aa J b o cs:=fun w k=>h w (l w k)
class ab (α:Type) where
 sz:Nat
 pos:0<sz
 cs:M→List Value→α→Prop
 sj:∀ {μ:M}{l:List Value}{x:α},cs μ l x→l.length=sz
 up:∀ {μ J:M}{l:List Value}{x:α},ga μ J→cs μ l x→cs J l x
 Yh:∀ {μ:M}{l:List Value}{x:α},cs μ l x→l.all Kg=true
structure ad {α:Type}(sz:Nat) (R:List Value→α→Prop) (μ:M) (a:Option Addr) (c:Nat) (xs:List α):Prop where
 le:xs.length≤c
 cap:c≤maxLen
 el:xs=[]∨∃ b o,a=some ⟨b,o,none⟩∧∃ g:Nat→List Value,∀ i x,xs[i]?=some x→Aa μ b (o+i*sz) (g i)∧R (g i) x
abbrev Ja {α:Type}[ab α] (μ:M) (a:Option Addr) (c:Nat) (xs:List α):Prop:=ad (ab.sz α) (ab.cs μ) μ a c xs
theorem ad.imp {α:Type}{sz:Nat}{R R':List Value→α→Prop}{μ J:M}{a:Option Addr}{c:Nat}{xs:List α}(h:ad sz R μ a c xs) (l:ga μ J) (f:∀ (i:Nat) (cs:List Value) (x:α),xs[i]?=some x→R cs x→R' cs x):ad sz R' J a c xs where
 le:=h.le
 cap:=h.cap
 el:=by
  rcases h.el with h | ⟨b,o,j,g,e⟩
  ·exact .inl h
  ·exact .inr ⟨b,o,j,g,fun i x d=>⟨(e i x d).1.up l,f i _ x d (e i x d).2⟩⟩
theorem Ja.up {α:Type}[ab α]{μ J:M}{a:Option Addr}{c:Nat}{xs:List α}(h:Ja μ a c xs) (l:ga μ J):Ja J a c xs:=ad.imp h l fun _ _ _ _=>ab.up l
theorem Ja.nil {α:Type}[ab α]{μ:M}{a:Option Addr}:Ja (α:=α) μ a 0 []:=⟨by simp,by simp,.inl rfl⟩
theorem Ja.len {α:Type}{sz:Nat}{R:List Value→α→Prop}{μ:M}{a:Option Addr}{c:Nat}{xs:List α}(h:ad sz R μ a c xs):xs.length≤9223372036854775807:=Nat.le_trans h.le h.cap
instance:ab Int where
 sz:=1
 pos:=by decide
 cs _ l x:=l=[.int .i64 x]
 sj h:=by rw [h];rfl
 up _ h:=h
 Yh h:=by rw [h];rfl
instance:ab Bool where
 sz:=1
 pos:=by decide
 cs _ l x:=l=[.bool x]
 sj h:=by rw [h];rfl
 up _ h:=h
 Yh h:=by rw [h];rfl
instance {α:Type}[ab α]:ab (List α) where
 sz:=1
 pos:=by decide
 cs μ l xs:=∃ a c,l=[.slice a xs.length c]∧Ja μ a c xs
 sj h:=by obtain ⟨a,c,rfl,-⟩:=h;rfl
 up l h:=by obtain ⟨a,c,b,d⟩:=h;exact ⟨a,c,b,d.up l⟩
 Yh h:=by obtain ⟨a,c,rfl,-⟩:=h;rfl
instance:ab (List UInt8) where
 sz:=1
 pos:=by decide
 cs _ l x:=l=[S x]
 sj h:=by rw [h];rfl
 up _ h:=h
 Yh h:=by rw [h];rfl
def i64 (n:Int):Option Int:=if -9223372036854775808≤n∧n≤9223372036854775807 then some n else none
def Fm (n:Int):Int:=IntKind.i64.wrap n
def at_ {α:Type}(l:List α) (i:Int):Option α:=if 0≤i then l[i.toNat]? else none
def cut {α:Type}(l:List α) (i j:Int):Option (List α):=if 0≤i∧i≤j∧j≤l.length then some ((l.take j.toNat).drop i.toNat) else none
def cat (a b:List UInt8):Option (List UInt8):=if a.length+b.length≤9223372036854775807 then some (a++b) else none
def app {α:Type}(l:List α) (xs:List α):Option (List α):=if l.length+xs.length≤4294967296 then some (l++xs) else none
def quo (a b:Int):Option Int:=if b=0 then none else some (Fm (a.tdiv b))
theorem ua {α β:Type}{o:Option α}{f:α→Option β}{r:β}(h:Option.bind o f=some r):∃ x,o=some x∧f x=some r:=Option.bind_eq_some_iff.1 h
theorem fl {α:Type}{c:Prop}[Decidable c]{x y:α}{r:α}(a:c) (h:(if c then x else y)=r):x=r:=by rwa [if_pos a] at h
theorem ch {α:Type}{c:Prop}[Decidable c]{x y:α}{r:α}(a:¬ c) (h:(if c then x else y)=r):y=r:=by rwa [if_neg a] at h
theorem hL {n x:Int}(h:i64 n=some x):x=n∧-9223372036854775808≤n∧n≤9223372036854775807:=by
 unfold i64 at h;split at h
 ·rename_i a;exact ⟨(Option.some.inj h).symm,a⟩
 ·cases h
theorem PD {n x:Int}(h:i64 n=some x):IntKind.i64.wrap n=x:=by
 obtain ⟨rfl,a,b⟩:=hL h;exact wr (by omega)
theorem Ot {α:Type}{l:List α}{i:Int}{x:α}(h:at_ l i=some x):0≤i∧i<l.length∧l[i.toNat]?=some x:=by
 unfold at_ at h;split at h
 ·rename_i a;refine ⟨a,?_,h⟩;have:=(List.getElem?_eq_some_iff.1 h).1;omega
 ·cases h
theorem cw {α:Type}{l ys:List α}{i j:Int}(h:cut l i j=some ys):(0≤i∧i≤j∧j≤l.length)∧ys=(l.take j.toNat).drop i.toNat:=by
 unfold cut at h;split at h
 ·rename_i a;exact ⟨a,(Option.some.inj h).symm⟩
 ·cases h
theorem iL {a b c:List UInt8}(h:cat a b=some c):c=a++b∧a.length+b.length≤9223372036854775807:=by
 unfold cat at h;split at h
 ·rename_i d;exact ⟨(Option.some.inj h).symm,d⟩
 ·cases h
theorem dw {α:Type}{a b c:List α}(h:app a b=some c):c=a++b∧a.length+b.length≤4294967296:=by
 unfold app at h;split at h
 ·rename_i d;exact ⟨(Option.some.inj h).symm,d⟩
 ·cases h
structure rv (v:Value) (sz:Nat) (i:Int) (b o:Nat):Prop where
 out:∃ a n c,v=.slice (some ⟨b,a,none⟩) n c∧0≤i∧i<n∧a+i.toNat*sz=o
theorem ad.elem {α:Type}{sz:Nat}{R:List Value→α→Prop}{μ:M}{a:Option Addr}{c:Nat}{xs:List α}{i:Int}{x:α}(h:ad sz R μ a c xs) (g:at_ xs i=some x) :
  ∃ b o cs,rv (.slice a xs.length c) sz i b o∧Aa μ b o cs∧R cs x:=by
 obtain ⟨j,k,d⟩:=Ot g;rcases h.el with rfl | ⟨b,o,rfl,f,e⟩
 ·simp at d
 ·exact ⟨b,_,f i.toNat,⟨o,_,_,rfl,j,k,rfl⟩,(e _ _ d).1,(e _ _ d).2⟩
def Na {α:Type}[ab α] (μ:M):List Value→List α→Prop
 | cells,[]=>cells=[]
 | cells,x::l=>∃ cs t,cells=cs++t∧ab.cs μ cs x∧Na μ t l
theorem Na.len {α:Type}[ab α]{μ:M}:∀ {l:List α}{cells:List Value},Na μ cells l→cells.length=l.length*ab.sz α
 | [],cells,h=>by rw [Na] at h; simp [h]
 | x::l,cells,h=>by
  rw [Na] at h;obtain ⟨cs,t,rfl,a,b⟩:=h;simp [Na.len b,ab.sj a,Nat.add_mul,Nat.add_comm]
theorem Na.up {α:Type}[ab α]{μ J:M}(ia:ga μ J):∀ {l:List α}{cells:List Value},Na μ cells l→Na J cells l
 | [],cells,h=>by rw [Na] at h ⊢; exact h
 | x::l,cells,h=>by
  rw [Na] at h ⊢;obtain ⟨cs,t,a,b,c⟩:=h;exact ⟨cs,t,a,ab.up ia b,Na.up ia c⟩
theorem Na.cat {α:Type}[ab α]{μ:M}{b:List α}{a:List Value}(k:Na μ a b):∀ {l:List α}{cells:List Value},Na μ cells l→Na μ (cells++a) (l++b)
 | [],cells,h=>by rw [Na] at h; subst h; exact k
 | x::l,cells,h=>by
  rw [Na] at h;obtain ⟨cs,t,rfl,c,d⟩:=h;rw [List.cons_append,Na];exact ⟨cs,t++a,by simp,c,Na.cat k d⟩
theorem Na.nil {α:Type}[ab α]{μ:M}:Na μ [] ([]:List α):=rfl
theorem Na.one {α:Type}[ab α]{μ:M}{cs:List Value}{x:α}(h:ab.cs μ cs x):Na μ cs [x]:=⟨cs,[],by simp,h,rfl⟩
theorem Na.cons {α:Type}[ab α]{μ:M}{cs t:List Value}{x:α}{l:List α}(h:ab.cs μ cs x) (k:Na μ t l):Na μ (cs++t) (x::l):=⟨cs,t,rfl,h,k⟩
theorem Na.Yh {α:Type}[ab α]{μ:M}:∀ {l:List α}{cells:List Value},Na μ cells l→cells.all Kg=true
 | [],cells,h=>by rw [Na] at h; simp [h]
 | x::l,cells,h=>by
  rw [Na] at h;obtain ⟨cs,t,rfl,a,b⟩:=h;rw [List.all_append,ab.Yh a,Na.Yh b];rfl
theorem Na.get {α:Type}[ab α]{μ:M}:∀ {l:List α}{cells:List Value}{i:Nat}{x:α},Na μ cells l→l[i]?=some x→ab.cs μ ((cells.drop (i*ab.sz α)).take (ab.sz α)) x
 | [],cells,i,x,h,a=>by simp at a
 | y::l,cells,i,x,h,a=>by
  rw [Na] at h;obtain ⟨cs,t,rfl,b,c⟩:=h;cases i with
  | zero=>simp at a; subst a; simp [← ab.sj b]; exact b
  | succ i =>
   simp at a;have:=Na.get c a;have e:(i+1)*ab.sz α=cs.length+i*ab.sz α:=by rw [Nat.add_mul,ab.sj b];omega
   rw [e,← List.drop_drop];simpa using this
theorem Ja.cells {α:Type}[ab α]{μ:M}{a:Option Addr}{c:Nat}:∀ {xs:List α},Ja μ a c xs→∃ cells,Na μ cells xs∧(xs≠[]→∃ b o,a=some ⟨b,o,none⟩∧Aa μ b o cells):=by
 intro xs h;rcases h.el with rfl | ⟨b,o,rfl,g,n⟩
 ·exact ⟨[],rfl,fun h=>absurd rfl h⟩
 ·have key:∀ (l:List α) (k:Nat),xs.drop k=l→∃ cells,Na μ cells l∧Aa μ b (o+k*ab.sz α) cells:=by
   intro l
   induction l with
   | nil=>intro k _; exact ⟨[],rfl,fun w _ j v d=>by simp at d⟩
   | cons x l p =>
    intro k i;have q:xs[k]?=some x:=by
     have:=congrArg (fun l=>l[0]?) i;simpa using this
    obtain ⟨cells,e,f⟩:=p (k+1) (by rw [← List.tail_drop,i];rfl);obtain ⟨r,m⟩:=n k x q;refine ⟨g k++cells,Na.cons m e,fun w hw j v d=>?_⟩;rcases Nat.lt_or_ge j (g k).length with ia | ia
    ·rw [List.getElem?_append_left ia] at d;exact r w hw j v d
    ·rw [List.getElem?_append_right ia] at d;have:=f w hw _ v d;rw [ab.sj m] at this ia;rw [show o+(k+1)*ab.sz α+(j - ab.sz α)=o+k*ab.sz α+j by rw [Nat.add_mul];omega] at this;exact this
  obtain ⟨cells,e,f⟩:=key xs 0 rfl;exact ⟨cells,e,fun _=>⟨b,o,rfl,by simpa using f⟩⟩
section
variable {P:Program}{Q:Exit→Act→World→Prop}{K:List Value→List Deferred→World→Prop}{fr Ga:List Value}{ds:List Deferred}{w:World}
variable {dst:Option Tmp}{ty:TypeId}{pos:String}{after:Array Edge}{g:Option (Nat×Bool)}
variable {ca:World}{rs rs':List kb}{μ:M}
variable {T:TypeId}{d:TypeDesc}{td:Bool}{yd:List Value}{n m:Nat}
theorem Bd {c:Code}(f:List Nat) (i:f.Nodup) (d:List tb→World→Prop) (j:∀ m w,d m w→opens m=f)
  (h:Ie P c (Exit.then (fun n w'=>∃ m Ga,n=F Ga ds∧ie m fr Ga∧d m w') Q) fr ds w)
  (k:∀ m t w,d m w→Q .normal (F (dj t m fr) ds) w):Ie P c Q fr ds w:=⟨
 wp_mono h.out fun e a w' b=>by
  cases e with
  | normal =>
   obtain ⟨m,Ga,rfl,o,g⟩:=b;obtain ⟨ib,p⟩:=o.ex (by rw [j m w' g];exact i);have:=k m ib w' g;rw [← p] at this;exact this
  | exit id=>exact b
  | goto l=>exact b
  | ret=>exact b
  | panic q=>exact b
  | outgrown=>exact b⟩
theorem Jg {c:Code}(f:List Nat) (j:f.Nodup) (b:Nat→List tb→World→Prop) (g:∀ n m w,b n m w→opens m=f) (je:Nat) (m0:List tb) (k:ie m0 fr fr) (h:b je m0 w)
  (round:∀ n m t w,b n m w→Ie P c (Exit.then (fun l w'=>∃ d e Ga,l=F Ga ds∧ie e fr Ga∧b d e w'∧d<n) Q) (dj t m fr) ds w):Ie P (.loop c) Q fr ds w:=by
 refine JM (α:={ p:Nat×List tb // opens p.2=f }) f j (fun p=>p.1.2) (fun p=>p.2) (fun p w=>b p.1.1 p.1.2 w) (fun p _=>p.1.1) ⟨(je,m0),g je m0 w h⟩ k h fun p t w o=>?_;refine (round p.1.1 p.1.2 t w o).mono (VH fun a w' ⟨d,e,Ga,q,r,i,s⟩=>⟨⟨(d,e),g d e w' i⟩,Ga,q,r,i,s⟩)
theorem Sj {c:Operand}{x y:Code}{b:Bool}(a:ob fr c (.bool b)) (d:b=true→Ie P x Q fr ds w) (e:¬ b=true→Ie P y Q fr ds w):Ie P (.cond c x y) Q fr ds w :=
 tr a d fun h=>e (by rw [h];simp)
theorem vB {c:Operand}{x y:Code}{b:Bool}(a:ob fr c (.bool (!b))) (d:¬ b=true→Ie P x Q fr ds w) (e:b=true→Ie P y Q fr ds w):Ie P (.cond c x y) Q fr ds w :=
 tr a (fun h=>d (by simpa using h)) fun h=>e (by simpa using h)
theorem GN {ops:Array Oper}{l:List Oper}{vi wi:List Value}{d:Nat}{b:Bool}(ia:nc fr d (.bool b)) (a:uc fr d (.bool true) vi) (c:uc fr d (.bool false) wi)
  (e:b=true→Sf P ops Q l vi ds w) (f:¬ b=true→Sf P ops Q l wi ds w):Sf P ops Q l fr ds w:=aC ia a c e fun h=>f (by rw [h];simp)
theorem VM {ops:Array Oper}{l:List Oper}{vi wi:List Value}{d:Nat}{b:Bool}(ia:nc fr d (.bool (!b))) (a:uc fr d (.bool true) vi) (c:uc fr d (.bool false) wi)
  (e:¬ b=true→Sf P ops Q l vi ds w) (f:b=true→Sf P ops Q l wi ds w):Sf P ops Q l fr ds w:=aC ia a c (fun h=>e (by simpa using h)) fun h=>f (by simpa using h)
inductive Wg:List kb→Nat→List kb→Prop where
 | z {rs:List kb}:Wg rs 0 rs
 | s {a r:kb} {rs rs':List kb} {k:Nat} (h:Wg rs k (r::rs')):Wg (a::rs) (k+1) (r::a::rs')
theorem Wg.perm {k:Nat}{rs rs':List kb}(h:Wg rs k rs'):rs.Perm rs':=by
 induction h with
 | z=>exact .refl _
 | s _ a=>exact (a.cons _).trans (.swap _ _ _)
theorem _root_.Go.Rb.Sep.Ia {k:Nat}{S ld:Nat→Prop}{A:World→Prop}(h:Sep S ld ca w rs A) (a:Wg rs k rs'):Sep S ld ca w rs' A where
 keeps:=h.keeps
 all r d:=h.all r (a.perm.mem_iff.2 d)
 ej:=(a.perm.filterMap _).nodup_iff.1 h.ej
 new b e:=h.new b ((a.perm.filterMap _).mem_iff.2 e)
 Yj:=h.Yj.mono fun k _ c=>⟨c.1,fun hm=>c.2 ((a.perm.filterMap kb.block).mem_iff.2 hm)⟩
theorem _root_.Go.Rb.Sep.pz {r:kb}{B:World→Prop}(h:ha μ ca w (r::rs)) (hB:∀ w,r.holds w→B w):ha (fun w=>μ w∧B w) ca w rs :=
 Sep.freeze h (d0 (α:=kb)) ta.z (fun _ _=>.inl trivial) hB
theorem _root_.Go.Rb.Sep.Wk {α:Type}[ab α]{v:Value}{cells:List Value}{l:List α}(h:ha μ ca w (.row v T (ab.sz α) n cells::rs)) (p:Na μ cells l) (e:l.length=n) :
  ∃ J a c,v=.slice a l.length c∧ga μ J∧Ja J a c l∧ha J ca w rs:=by
 have q:Row w v T (ab.sz α) n cells:=h.all _ (List.mem_cons_self ..);have f:=Sep.pz (B:=fun w=>Row w v T (ab.sz α) n cells) h fun w hw=>hw;have hle:ga μ (fun w=>μ w∧Row w v T (ab.sz α) n cells):=fun w hw=>hw.1;rcases q.2 with ⟨rfl,rfl⟩ | ⟨g,o,cap,cur,rfl,D,r,s,E,F⟩
 ·obtain rfl:=List.eq_nil_of_length_eq_zero e;exact ⟨_,none,0,rfl,hle,Ja.nil,f⟩
 ·subst e;refine ⟨_,some ⟨g,o,none⟩,cap,rfl,hle,⟨r,s,.inr ⟨g,o,rfl,fun i=>(cells.drop (i*ab.sz α)).take (ab.sz α),fun i x k=>⟨?_,?_⟩⟩⟩,f⟩
  ·intro G t j u d;obtain ⟨-,y⟩:=t;have z:0<l.length:=by have:=(List.getElem?_eq_some_iff.1 k).1;omega
   obtain ⟨b,H,c,m,A⟩:=y.Mt z;simp at m;obtain ⟨⟨rfl,rfl⟩,rfl⟩:=m;have C:j<ab.sz α:=by
    have:=(List.getElem?_eq_some_iff.1 d).1;simp at this;omega
   rw [List.getElem?_take_of_lt C,List.getElem?_drop] at d;have:=A _ u d;rw [← Nat.add_assoc] at this;exact this
  ·exact ab.up hle (p.get k)
theorem _root_.Go.Rb.Sep.ks {α:Type}[ab α]{b:Nat}{cells:List Value}{l:List α}(h:ha μ ca w (.ba b T cells::rs)) (c:Na μ cells l) (hlen:l.length≤maxLen) :
  ∃ J,ga μ J∧Ja J (some ⟨b,0,none⟩) l.length l∧ha J ca w rs:=by
 have d:=Sep.pz (B:=fun w=>Qk w b T cells) h fun w hw=>hw;have hle:ga μ (fun w=>μ w∧Qk w b T cells):=fun w hw=>hw.1;refine ⟨_,hle,⟨Nat.le_refl _,hlen,.inr ⟨b,0,rfl,fun i=>(cells.drop (i*ab.sz α)).take (ab.sz α),fun i x e=>⟨?_,ab.up hle (c.get e)⟩⟩⟩,d⟩;intro k f j u a;have g:j<ab.sz α:=by
  have:=(List.getElem?_eq_some_iff.1 a).1;simp at this;omega
 rw [List.getElem?_take_of_lt g,List.getElem?_drop] at a;have:=f.2.cells _ u a;rw [Nat.zero_add] at this ⊢;exact this
theorem _root_.Go.Rb.Sep.Je {b:Nat}{cells:List Value}(h:ha μ ca w (.ba b T cells::rs)):∃ J,ga μ J∧Aa J b 0 cells∧ha J ca w rs :=
 ⟨_,fun _ hw=>hw.1,fun _ hw=>hw.2.cells,Sep.pz (B:=fun w=>Qk w b T cells) h fun _ hw=>hw⟩
theorem _root_.Go.Rb.Sep.ZA {sz:Nat}{b k:Nat}{cells:List Value}{S ld:Nat→Prop}{A:World→Prop}(h:Sep S ld ca w rs A) (ia:nc rs k (.ba b T cells)) (a:cells.length=n*sz) (hlen:n≤maxLen)
  (c:uc rs k (.row (.slice (some ⟨b,0,none⟩) n n) T sz n cells) rs'):Sep S ld ca w rs' A:=by
 have d:Qk w b T cells:=h.get ia;refine h.put (b:=b) ia rfl rfl c ⟨a,.inr ⟨b,0,n,⟨cells⟩,rfl,d,Nat.le_refl _,hlen,by simp [a],by simp [← a]⟩⟩ (bj.refl _)
theorem _root_.Go.Rb.Row.elem {α:Type}[ab α]{v:Value}{cells:List Value}{l:List α}{i:Int}{x:α}(h:Row w v T (ab.sz α) n cells) (e:Na μ cells l) (f:l.length=n) (g:at_ l i=some x) :
  ∃ b o cs,rv v (ab.sz α) i b o∧(∀ w T,Row w v T (ab.sz α) n cells→Nj w b o cs)∧ab.cs μ cs x:=by
 obtain ⟨k,m,p⟩:=Ot g;obtain ⟨b,o,c,rfl,t⟩:=h.Mt (by omega);subst f;refine ⟨b,o+i.toNat*ab.sz α,_,⟨o,_,_,rfl,k,m,rfl⟩,?_,e.get p⟩;intro y z q j u a;obtain ⟨Ic,A,c',d,r⟩:=q.Mt (by omega);simp at d;obtain ⟨⟨rfl,rfl⟩,rfl⟩:=d;have s:j<ab.sz α:=by
  have:=(List.getElem?_eq_some_iff.1 a).1;simp at this;omega
 rw [List.getElem?_take_of_lt s,List.getElem?_drop] at a;have:=r _ u a;rw [← Nat.add_assoc] at this;exact this
theorem dd {x y:Operand}{v:Value}{b o sz:Nat}{k:IntKind}{i:Int}{e:TypeId}(a:P.underlying T=some (.slice e)) (d:Nc P e td yd sz m) (f:ob fr x v) (h:ob fr y (.int k i)) (he:rv v sz i b o):Zf P (Oper.mk dst (.indexAddr T x y) ty pos after g) fr ((.pointer (some ⟨b,o,none⟩))):=by
 obtain ⟨q,n,c,rfl,j,l,p⟩:=he.out;exact Ew a d f h ⟨j,l⟩ p
theorem ow {x y:Operand}{v:Value}{b o sz:Nat}{k:IntKind}{i:Int}{e:TypeId}(a:P.underlying T=some (.slice e)) (c:Nc P e td yd sz m) (d:ob fr x v) (f:ob fr y (.int k i)) (he:rv v sz i b o) (j:lf fr dst ((.pointer (some ⟨b,o,none⟩))) Ga) (h:K Ga ds w):Td P (Oper.mk dst (.indexAddr T x y) ty pos after g) fr ds w K Q:=Ra (dd a c d f he) j h
theorem Tf {x y:Operand}{t ib:TypeId}{a b c:Int}(d:ob fr x (.int .i64 a)) (e:ob fr y (.int .i64 b)) (h:i64 (a+b)=some c):Zf P (Oper.mk dst (.binOp .add t x y ib) ty pos after g) fr ((.int .i64 c)):=rB d e (PD h)
theorem br {x y:Operand}{t ib:TypeId}{a b c:Int}(d:ob fr x (.int .i64 a)) (e:ob fr y (.int .i64 b)) (h:i64 (a+b)=some c) (f:lf fr dst ((.int .i64 c)) Ga) (k:K Ga ds w):Td P (Oper.mk dst (.binOp .add t x y ib) ty pos after g) fr ds w K Q:=Ra (Tf d e h) f k
theorem Xu {x y:Operand}{t ib:TypeId}{a b c:Int}(d:ob fr x (.int .i64 a)) (e:ob fr y (.int .i64 b)) (h:i64 (a - b)=some c):Zf P (Oper.mk dst (.binOp .sub t x y ib) ty pos after g) fr ((.int .i64 c)):=Ly d e (PD h)
theorem yy {a b c:Int}(h:quo a b=some c):b≠0∧IntKind.i64.wrap (a.tdiv b)=c:=by
 unfold quo at h;split at h
 ·cases h
 ·rename_i d;exact ⟨d,Option.some.inj h⟩
theorem jL {x y:Operand}{t:TypeId}{k:IntKind}{a:List UInt8}{i:Int}{c:UInt8}(b:P.underlying t=some .string) (d:ob fr x (S a)) (e:ob fr y (.int k i)) (h:at_ a i=some c):Zf P (Oper.mk dst (.index t x y) ty pos after g) fr (.int .u8 c.toNat):=gL b d e (Ot h).1 (Ot h).2.2
theorem zy {x y:Operand}{t:TypeId}{k:IntKind}{a:List UInt8}{i:Int}{c:UInt8}(b:P.underlying t=some .string) (d:ob fr x (S a)) (e:ob fr y (.int k i)) (h:at_ a i=some c) (f:lf fr dst (.int .u8 c.toNat) Ga) (kk:K Ga ds w):Td P (Oper.mk dst (.index t x y) ty pos after g) fr ds w K Q:=Ra (jL b d e h) f kk
theorem UE {x y:Operand}{t ib:TypeId}{a b c:List UInt8}(d:ob fr x (S a)) (e:ob fr y (S b)) (h:cat a b=some c):Zf P (Oper.mk dst (.binOp .add t x y ib) ty pos after g) fr (S c):=by
 obtain ⟨rfl,ia⟩:=iL h;exact PM d e ia
structure sv (v:Value) (sz:Nat) (i j:Option Int) (b:Value):Prop where
 out:∃ a n c,v=.slice a n c∧0≤i.getD 0∧i.getD 0≤j.getD n∧j.getD n≤c∧b=.slice (if c=(i.getD 0).toNat then a else a.map (·.add ((i.getD 0).toNat*sz))) ((j.getD n).toNat - (i.getD 0).toNat) (c - (i.getD 0).toNat)
inductive xz (fr:List Value):Option Operand→Option Int→Prop where
 | n:xz fr none none
 | s {x:Operand} {i:Int} (h:ob fr x (.int .i64 i)):xz fr (some x) (some i)
theorem Ds {x:Operand}{cl up:Option Operand}{v q:Value}{sz:Nat}{i j:Option Int}{e:TypeId}(f:P.underlying T=some (.slice e)) (k:Nc P e td yd sz m) (l:ob fr x v) (t:xz fr cl i) (r:xz fr up j) (he:sv v sz i j q):Zf P (Oper.mk dst (.slice T x cl up none) ty pos after g) fr q:=by
 obtain ⟨a,n,c,rfl,o,b,d,rfl⟩:=he.out;refine ⟨fun ds w=>?_⟩;cases t with
 | n =>
  cases r with
  | n =>
   simp at b d;simp [execOp,l ds,Instr.sliceAt,Instr.slice,run_underlying f,Instr.sliceBounds,k.sizeOf];try rfl
  | s h =>
   rename_i y i;simp at b d;have qa:i≤(c:Int):=d;simp [execOp,l ds,h ds,Instr.sliceAt,Instr.slice,run_underlying f,Instr.sliceBounds,Instr.sliceBound,asIntOf,k.sizeOf,b,qa];try rfl
 | s h =>
  rename_i y i;cases r with
  | n =>
   simp at o b d;simp [execOp,l ds,h ds,Instr.sliceAt,Instr.slice,run_underlying f,Instr.sliceBounds,Instr.sliceBound,asIntOf,k.sizeOf,o,b];try rfl
  | s u =>
   rename_i A p;simp at o b d;have qa:0≤p:=by omega
   have z:(p.toNat:Int)=p:=by omega
   simp [execOp,l ds,h ds,u ds,Instr.sliceAt,Instr.slice,run_underlying f,Instr.sliceBounds,Instr.sliceBound,asIntOf,k.sizeOf,o,b,d,qa,z];try rfl
theorem Ja.tv {α:Type}[ab α]{μ:M}{a:Option Addr}{c:Nat}{xs ys:List α}{i j:Option Int}(h:Ja μ a c xs) (g:cut xs (i.getD 0) (j.getD xs.length)=some ys) :
  ∃ e c',sv (.slice a xs.length c) (ab.sz α) i j (.slice e ys.length c')∧Ja μ e c' ys:=by
 obtain ⟨⟨l,m,r⟩,rfl⟩:=cw g;have hle:=h.le;refine ⟨(if c=(i.getD 0).toNat then a else a.map (·.add ((i.getD 0).toNat*ab.sz α))),c - (i.getD 0).toNat,⟨a,xs.length,c,rfl,l,m,by omega,?_⟩,?_⟩
 ·rw [show ((xs.take (j.getD ↑xs.length).toNat).drop (i.getD 0).toNat).length=(j.getD ↑xs.length).toNat - (i.getD 0).toNat by simp;omega]
 ·refine ⟨by simp;omega,by have:=h.cap;omega,?_⟩;rcases h.el with rfl | ⟨b,o,rfl,f,n⟩
  ·left;simp
  ·by_cases p:c=(i.getD 0).toNat
   ·left;rw [List.drop_eq_nil_iff];simp;omega
   ·right;rw [if_neg p];refine ⟨b,o+(i.getD 0).toNat*ab.sz α,by simp [Ak],fun k=>f ((i.getD 0).toNat+k),fun k x d=>?_⟩;rw [List.getElem?_drop] at d;have q:(i.getD 0).toNat+k<(j.getD ↑xs.length).toNat:=by
     have:=(List.getElem?_eq_some_iff.1 d).1;simp at this;omega
    rw [List.getElem?_take_of_lt q] at d;have:=n _ x d;rw [Nat.add_mul,← Nat.add_assoc] at this;exact this
end
end Go.ec
namespace Go.ec
open Go.Rb Go.RowKit
section
variable {P:Program}{Q:Exit→Act→World→Prop}{K:List Value→List Deferred→World→Prop}{fr Ga:List Value}{ds:List Deferred}{w:World}
variable {dst:Option Tmp}{ty:TypeId}{pos:String}{after:Array Edge}{g:Option (Nat×Bool)}
variable {ca:World}{rs rs':List kb}{μ:M}
variable {T:TypeId}{d:TypeDesc}{td:Bool}{yd:List Value}{n m:Nat}
theorem QD {x cl:Operand}{t:TypeId}{a b:List UInt8}{i:Int}(c:P.underlying t=some .string) (d:ob fr x (S a)) (e:ob fr cl (.int .i64 i)) (h:cut a i a.length=some b):Zf P (Oper.mk dst (.slice t x (some cl) none none) ty pos after g) fr (S b):=by
 obtain ⟨⟨f,j,k⟩,rfl⟩:=cw h;have:=NJ (dst:=dst) (ty:=ty) (pos:=pos) (after:=after) (g:=g) c d e ⟨f,j⟩;simpa using this
theorem tA {x up:Operand}{t:TypeId}{a b:List UInt8}{j:Int}(c:P.underlying t=some .string) (d:ob fr x (S a)) (e:ob fr up (.int .i64 j)) (h:cut a 0 j=some b):Zf P (Oper.mk dst (.slice t x none (some up) none) ty pos after g) fr (S b):=by
 obtain ⟨⟨k,f,i⟩,rfl⟩:=cw h;have:=OJ (dst:=dst) (ty:=ty) (pos:=pos) (after:=after) (g:=g) c d e ⟨f,i⟩;simpa using this
theorem _root_.Go.Rb.Row.Kg {v:Value}{sz n:Nat}{xs:List Value}(h:Row w v T sz n xs):Kg v=true:=by
 rcases h.2 with ⟨rfl,_⟩ | ⟨g,o,cap,cur,rfl,_⟩<;>rfl
theorem kj {f:Nat}{xs ys:List Operand}{vs us:List Value}(a:Em fr xs vs) (hu:Em fr ys us):Zf P (Oper.mk dst (.makeFunc (.func f) ⟨xs⟩ ⟨ys⟩) ty pos after g) fr (.func (.func f) ⟨vs⟩ ⟨us⟩):=by
 refine ⟨fun ds w=>?_⟩;have b:=a ds;have c:=hu ds;simp [execOp,Instr.makeFunc,b,c]
theorem kL {f:Nat}{xs ys:List Operand}{vs us:List Value}(a:Em fr xs vs) (hu:Em fr ys us) (b:lf fr dst (.func (.func f) ⟨vs⟩ ⟨us⟩) Ga) (k:K Ga ds w):Td P (Oper.mk dst (.makeFunc (.func f) ⟨xs⟩ ⟨ys⟩) ty pos after g) fr ds w K Q:=Ra (kj a hu) b k
theorem Na.app {α:Type}[ab α]{cells news:List Value}{l xs a:List α}(h:Na μ cells l) (k:Na μ news xs) (g:app l xs=some a):Na μ (cells++news) a:=by
 obtain ⟨rfl,-⟩:=dw g;exact Na.cat k h
theorem IA {α:Type}{l xs a:List α}(g:app l xs=some a):a.length=l.length+xs.length∧l.length+xs.length≤4294967296:=by
 obtain ⟨rfl,h⟩:=dw g;exact ⟨by simp,h⟩
theorem rm {α:Type}[ab α]{t:TypeId}{s x:Operand}{v:Value}{bytes k b d c:Nat}{cells news:List Value}{l ys e:List α}(i:P.underlying t=some (.slice T)) (j:Nc P T td yd (ab.sz α) bytes) (m:yd.length=ab.sz α)
  (n:ob fr s v) (o:ob fr x (.slice (some ⟨b,0,none⟩) d c)) (p:ha μ ca w rs) (ia:nc rs k (.row v T (ab.sz α) l.length cells)) (q:Nj w b 0 news) (f:Na μ news ys) (hm:ys.length=d) (r:app l ys=some e) (u:bytes≤4096)
  (h:∀ a w' rs',uc rs k (.row a T (ab.sz α) e.length (cells++news)) rs'→ha μ ca w' rs'→Hh fr dst a fun Ga=>K Ga ds w') :
  Td P (Oper.mk dst (.call { callee:=.builtin .append,args:=#[s,x],argTypes:=#[t,t] }) ty pos after g) fr ds w K Q:=by
 obtain ⟨y,z⟩:=IA r;subst hm;refine Xx i j (by simp [m,ab.pos]) n o p ia q f.len f.Yh ⟨z,u⟩ fun a w' rs' A=>h a w' rs' (by rw [y];exact A)
theorem _root_.Go.Rb.Nj.Xg {b o:Nat}{cs:List Value}(h:Nj w b o cs) (i n:Nat):Nj w b (o+i) ((cs.drop i).take n):=by
 intro j v a;have c:j<n:=by
  have:=(List.getElem?_eq_some_iff.1 a).1;simp at this;omega
 rw [List.getElem?_take_of_lt c,List.getElem?_drop] at a;have:=h _ v a;rw [← Nat.add_assoc] at this;exact this
theorem Aa.Xg {b o:Nat}{cs:List Value}(h:Aa μ b o cs) (i n:Nat):Aa μ b (o+i) ((cs.drop i).take n):=fun w hw=>(h w hw).Xg i n
theorem zc {x y:Operand}{b k:Nat}{cs vs:List Value}(a:Nc P T td yd n m) (d:ob fr x (.pointer (some ⟨b,0,none⟩))) (e:ob fr y (.agg ⟨vs⟩)) (f:vs.length=n) (i:vs.all Kg=true)
  {S ld:Nat→Prop}{A:World→Prop}(j:Sep S ld ca w rs A) {vg:TypeId}(ia:nc rs k (.ba b vg cs)) (he:cs.length=n) (l:uc rs k (.ba b vg vs) rs')
  (xa:lf fr dst undef Ga) (h:∀ w',Sep S ld ca w' rs' A→K Ga ds w'):Td P (Oper.mk dst (.store T x y) ty pos after g) fr ds w K Q:=by
 have key:∀ (vs cs pre:List Value),vs.length=cs.length→Mg (pre++cs) pre.length vs (pre++vs):=by
  intro vs
  induction vs with
  | nil=>intro cs pre h; cases cs with
   | nil=>exact .z
   | cons c cs=>simp at h
  | cons v vs o =>
   intro cs pre h;cases cs with
   | nil=>simp at h
   | cons c cs =>
    refine .s (cs1:=pre++v::cs) (by unfold uc;simp) (by simp) ?_;have:=o cs (pre++[v]) (by simpa using h);simpa using this
 exact Yv a d e rfl f i j ia (by simpa using key vs cs [] (by omega)) (by simp) l xa h
theorem Zr {pl:Array (Nat×Nat)}{xs:List (Nat×Operand)}{out:List Value}(a:Nc P T td yd n m) (b:Vi P T pl) (c:Lb fr pl yd xs out):Zf P (Oper.mk dst (.build T ⟨xs⟩) ty pos after g) fr (.agg ⟨out⟩):=by
 refine ⟨fun ds w=>?_⟩;obtain ⟨z,d,e⟩:=a.zero (w:=w);have f:=c.run (ds:=ds);obtain ⟨k,h,j⟩:=b.out;have hm:=j w;have ia:((⟨xs⟩:Array (Nat×Operand)).map fun (i,x)=>(i,(F fr ds).eval x)).toList=xs.map fun p=>(p.1,(F fr ds).eval p.2):=by simp
 unfold execOp;simp only [Instr.build,Sem.run_bind,d,Result.andThen_ok,run_underlying h];rw [hm];simp only [Result.andThen_ok,e,ia];rw [f];simp
end
end Go.ec
namespace Go.Rb
theorem na {α:Type}{a0 oa a2 a3 a4 a5 Sb Jb Pb a9 v:α}{l:List α}{n:Nat}(h:nc l n v):nc (a0::oa::a2::a3::a4::a5::Sb::Jb::Pb::a9::l) (n+10) v:=h
theorem Ma {α:Type}{a0 oa a2 a3 a4 a5 Sb Jb Pb a9 v:α}{l a:List α}{n:Nat}(h:uc l n v a):uc (a0::oa::a2::a3::a4::a5::Sb::Jb::Pb::a9::l) (n+10) v (a0::oa::a2::a3::a4::a5::Sb::Jb::Pb::a9::a):=by unfold uc at *;subst h;rfl
theorem Ha {α:Type}{a0 oa a2 a3 a4 a5 Sb Jb Pb a9 Kd Gc a12 a hc b c Mc d e v:α}{l:List α}{n:Nat}(h:nc l n v):nc (a0::oa::a2::a3::a4::a5::Sb::Jb::Pb::a9::Kd::Gc::a12::a::hc::b::c::Mc::d::e::l) (n+20) v:=h
theorem wb {α:Type}{a0 oa a2 a3 a4 a5 Sb Jb Pb a9 Kd Gc a12 a hc b c Mc d e v:α}{l f:List α}{n:Nat}(h:uc l n v f):uc (a0::oa::a2::a3::a4::a5::Sb::Jb::Pb::a9::Kd::Gc::a12::a::hc::b::c::Mc::d::e::l) (n+20) v (a0::oa::a2::a3::a4::a5::Sb::Jb::Pb::a9::Kd::Gc::a12::a::hc::b::c::Mc::d::e::f):=by unfold uc at *;subst h;rfl
theorem mb {α:Type}{a0 oa a2 a3 a4 a5 Sb Jb Pb a9 Kd Gc a12 a hc b c Mc d e a20 a21 a22 a23 a24 a25 a26 f a28 g v:α}{l:List α}{n:Nat}(h:nc l n v):nc (a0::oa::a2::a3::a4::a5::Sb::Jb::Pb::a9::Kd::Gc::a12::a::hc::b::c::Mc::d::e::a20::a21::a22::a23::a24::a25::a26::f::a28::g::l) (n+30) v:=h
theorem Rc {α:Type}{a0 oa a2 a3 a4 a5 Sb Jb Pb a9 Kd Gc a12 a hc b c Mc d e a20 a21 a22 a23 a24 a25 a26 f a28 g v:α}{l i:List α}{n:Nat}(h:uc l n v i):uc (a0::oa::a2::a3::a4::a5::Sb::Jb::Pb::a9::Kd::Gc::a12::a::hc::b::c::Mc::d::e::a20::a21::a22::a23::a24::a25::a26::f::a28::g::l) (n+30) v (a0::oa::a2::a3::a4::a5::Sb::Jb::Pb::a9::Kd::Gc::a12::a::hc::b::c::Mc::d::e::a20::a21::a22::a23::a24::a25::a26::f::a28::g::i):=by unfold uc at *;subst h;rfl
theorem hb {α:Type}{a0 oa a2 a3 a4 a5 Sb Jb Pb a9 Kd Gc a12 a hc b c Mc d e a20 a21 a22 a23 a24 a25 a26 f a28 g i a31 j k m o p a37 q r v:α}{l:List α}{n:Nat}(h:nc l n v):nc (a0::oa::a2::a3::a4::a5::Sb::Jb::Pb::a9::Kd::Gc::a12::a::hc::b::c::Mc::d::e::a20::a21::a22::a23::a24::a25::a26::f::a28::g::i::a31::j::k::m::o::p::a37::q::r::l) (n+40) v:=h
theorem Uc {α:Type}{a0 oa a2 a3 a4 a5 Sb Jb Pb a9 Kd Gc a12 a hc b c Mc d e a20 a21 a22 a23 a24 a25 a26 f a28 g i a31 j k m o p a37 q r v:α}{l s:List α}{n:Nat}(h:uc l n v s):uc (a0::oa::a2::a3::a4::a5::Sb::Jb::Pb::a9::Kd::Gc::a12::a::hc::b::c::Mc::d::e::a20::a21::a22::a23::a24::a25::a26::f::a28::g::i::a31::j::k::m::o::p::a37::q::r::l) (n+40) v (a0::oa::a2::a3::a4::a5::Sb::Jb::Pb::a9::Kd::Gc::a12::a::hc::b::c::Mc::d::e::a20::a21::a22::a23::a24::a25::a26::f::a28::g::i::a31::j::k::m::o::p::a37::q::r::s):=by unfold uc at *;subst h;rfl
theorem sb {α:Type}{a0 oa a2 a3 a4 a5 Sb Jb Pb a9 Kd Gc a12 a hc b c Mc d e a20 a21 a22 a23 a24 a25 a26 f a28 g i a31 j k m o p a37 q r a40 s t u w x a46 y z a49 v:α}{l:List α}{n:Nat}(h:nc l n v):nc (a0::oa::a2::a3::a4::a5::Sb::Jb::Pb::a9::Kd::Gc::a12::a::hc::b::c::Mc::d::e::a20::a21::a22::a23::a24::a25::a26::f::a28::g::i::a31::j::k::m::o::p::a37::q::r::a40::s::t::u::w::x::a46::y::z::a49::l) (n+50) v:=h
theorem Xc {α:Type}{a0 oa a2 a3 a4 a5 Sb Jb Pb a9 Kd Gc a12 a hc b c Mc d e a20 a21 a22 a23 a24 a25 a26 f a28 g i a31 j k m o p a37 q r a40 s t u w x a46 y z a49 v:α}{l A:List α}{n:Nat}(h:uc l n v A):uc (a0::oa::a2::a3::a4::a5::Sb::Jb::Pb::a9::Kd::Gc::a12::a::hc::b::c::Mc::d::e::a20::a21::a22::a23::a24::a25::a26::f::a28::g::i::a31::j::k::m::o::p::a37::q::r::a40::s::t::u::w::x::a46::y::z::a49::l) (n+50) v (a0::oa::a2::a3::a4::a5::Sb::Jb::Pb::a9::Kd::Gc::a12::a::hc::b::c::Mc::d::e::a20::a21::a22::a23::a24::a25::a26::f::a28::g::i::a31::j::k::m::o::p::a37::q::r::a40::s::t::u::w::x::a46::y::z::a49::A):=by unfold uc at *;subst h;rfl
theorem Pc {α:Type}{a0 oa a2 a3 a4 a5 Sb Jb Pb a9 Kd Gc a12 a hc b c Mc d e a20 a21 a22 a23 a24 a25 a26 f a28 g i a31 j k m o p a37 q r a40 s t u w x a46 y z a49 A a51 B a53 C D E F G a59 v:α}{l:List α}{n:Nat}(h:nc l n v):nc (a0::oa::a2::a3::a4::a5::Sb::Jb::Pb::a9::Kd::Gc::a12::a::hc::b::c::Mc::d::e::a20::a21::a22::a23::a24::a25::a26::f::a28::g::i::a31::j::k::m::o::p::a37::q::r::a40::s::t::u::w::x::a46::y::z::a49::A::a51::B::a53::C::D::E::F::G::a59::l) (n+60) v:=h
theorem Wd {α:Type}{a0 oa a2 a3 a4 a5 Sb Jb Pb a9 Kd Gc a12 a hc b c Mc d e a20 a21 a22 a23 a24 a25 a26 f a28 g i a31 j k m o p a37 q r a40 s t u w x a46 y z a49 A a51 B a53 C D E F G a59 v:α}{l H:List α}{n:Nat}(h:uc l n v H):uc (a0::oa::a2::a3::a4::a5::Sb::Jb::Pb::a9::Kd::Gc::a12::a::hc::b::c::Mc::d::e::a20::a21::a22::a23::a24::a25::a26::f::a28::g::i::a31::j::k::m::o::p::a37::q::r::a40::s::t::u::w::x::a46::y::z::a49::A::a51::B::a53::C::D::E::F::G::a59::l) (n+60) v (a0::oa::a2::a3::a4::a5::Sb::Jb::Pb::a9::Kd::Gc::a12::a::hc::b::c::Mc::d::e::a20::a21::a22::a23::a24::a25::a26::f::a28::g::i::a31::j::k::m::o::p::a37::q::r::a40::s::t::u::w::x::a46::y::z::a49::A::a51::B::a53::C::D::E::F::G::a59::H):=by unfold uc at *;subst h;rfl
theorem ed {α:Type}{a0 oa a2 a3 a4 a5 Sb Jb Pb a9 Kd Gc a12 a hc b c Mc d e a20 a21 a22 a23 a24 a25 a26 f a28 g i a31 j k m o p a37 q r a40 s t u w x a46 y z a49 A a51 B a53 C D E F G a59 H K L M N O P Q R S v:α}{l:List α}{n:Nat}(h:nc l n v):nc (a0::oa::a2::a3::a4::a5::Sb::Jb::Pb::a9::Kd::Gc::a12::a::hc::b::c::Mc::d::e::a20::a21::a22::a23::a24::a25::a26::f::a28::g::i::a31::j::k::m::o::p::a37::q::r::a40::s::t::u::w::x::a46::y::z::a49::A::a51::B::a53::C::D::E::F::G::a59::H::K::L::M::N::O::P::Q::R::S::l) (n+70) v:=h
theorem Oe {α:Type}{a0 oa a2 a3 a4 a5 Sb Jb Pb a9 Kd Gc a12 a hc b c Mc d e a20 a21 a22 a23 a24 a25 a26 f a28 g i a31 j k m o p a37 q r a40 s t u w x a46 y z a49 A a51 B a53 C D E F G a59 H K L M N O P Q R S v:α}{l T:List α}{n:Nat}(h:uc l n v T):uc (a0::oa::a2::a3::a4::a5::Sb::Jb::Pb::a9::Kd::Gc::a12::a::hc::b::c::Mc::d::e::a20::a21::a22::a23::a24::a25::a26::f::a28::g::i::a31::j::k::m::o::p::a37::q::r::a40::s::t::u::w::x::a46::y::z::a49::A::a51::B::a53::C::D::E::F::G::a59::H::K::L::M::N::O::P::Q::R::S::l) (n+70) v (a0::oa::a2::a3::a4::a5::Sb::Jb::Pb::a9::Kd::Gc::a12::a::hc::b::c::Mc::d::e::a20::a21::a22::a23::a24::a25::a26::f::a28::g::i::a31::j::k::m::o::p::a37::q::r::a40::s::t::u::w::x::a46::y::z::a49::A::a51::B::a53::C::D::E::F::G::a59::H::K::L::M::N::O::P::Q::R::S::T):=by unfold uc at *;subst h;rfl
theorem hd {α:Type}{a0 oa a2 a3 a4 a5 Sb Jb Pb a9 Kd Gc a12 a hc b c Mc d e a20 a21 a22 a23 a24 a25 a26 f a28 g i a31 j k m o p a37 q r a40 s t u w x a46 y z a49 A a51 B a53 C D E F G a59 H K L M N O P Q R S a70 T a72 U V a75 a76 W X Y v:α}{l:List α}{n:Nat}(h:nc l n v):nc (a0::oa::a2::a3::a4::a5::Sb::Jb::Pb::a9::Kd::Gc::a12::a::hc::b::c::Mc::d::e::a20::a21::a22::a23::a24::a25::a26::f::a28::g::i::a31::j::k::m::o::p::a37::q::r::a40::s::t::u::w::x::a46::y::z::a49::A::a51::B::a53::C::D::E::F::G::a59::H::K::L::M::N::O::P::Q::R::S::a70::T::a72::U::V::a75::a76::W::X::Y::l) (n+80) v:=h
theorem Ag {α:Type}{a0 oa a2 a3 a4 a5 Sb Jb Pb a9 Kd Gc a12 a hc b c Mc d e a20 a21 a22 a23 a24 a25 a26 f a28 g i a31 j k m o p a37 q r a40 s t u w x a46 y z a49 A a51 B a53 C D E F G a59 H K L M N O P Q R S a70 T a72 U V a75 a76 W X Y v:α}{l Z:List α}{n:Nat}(h:uc l n v Z):uc (a0::oa::a2::a3::a4::a5::Sb::Jb::Pb::a9::Kd::Gc::a12::a::hc::b::c::Mc::d::e::a20::a21::a22::a23::a24::a25::a26::f::a28::g::i::a31::j::k::m::o::p::a37::q::r::a40::s::t::u::w::x::a46::y::z::a49::A::a51::B::a53::C::D::E::F::G::a59::H::K::L::M::N::O::P::Q::R::S::a70::T::a72::U::V::a75::a76::W::X::Y::l) (n+80) v (a0::oa::a2::a3::a4::a5::Sb::Jb::Pb::a9::Kd::Gc::a12::a::hc::b::c::Mc::d::e::a20::a21::a22::a23::a24::a25::a26::f::a28::g::i::a31::j::k::m::o::p::a37::q::r::a40::s::t::u::w::x::a46::y::z::a49::A::a51::B::a53::C::D::E::F::G::a59::H::K::L::M::N::O::P::Q::R::S::a70::T::a72::U::V::a75::a76::W::X::Y::Z):=by unfold uc at *;subst h;rfl
theorem ee {α:Type}{a0 oa a2 a3 a4 a5 Sb Jb Pb a9 Kd Gc a12 a hc b c Mc d e a20 a21 a22 a23 a24 a25 a26 f a28 g i a31 j k m o p a37 q r a40 s t u w x a46 y z a49 A a51 B a53 C D E F G a59 H K L M N O P Q R S a70 T a72 U V a75 a76 W X Y a80 Z bb Gb gc a85 lc a87 rc fd v:α}{l:List α}{n:Nat}(h:nc l n v):nc (a0::oa::a2::a3::a4::a5::Sb::Jb::Pb::a9::Kd::Gc::a12::a::hc::b::c::Mc::d::e::a20::a21::a22::a23::a24::a25::a26::f::a28::g::i::a31::j::k::m::o::p::a37::q::r::a40::s::t::u::w::x::a46::y::z::a49::A::a51::B::a53::C::D::E::F::G::a59::H::K::L::M::N::O::P::Q::R::S::a70::T::a72::U::V::a75::a76::W::X::Y::a80::Z::bb::Gb::gc::a85::lc::a87::rc::fd::l) (n+90) v:=h
theorem Bg {α:Type}{a0 oa a2 a3 a4 a5 Sb Jb Pb a9 Kd Gc a12 a hc b c Mc d e a20 a21 a22 a23 a24 a25 a26 f a28 g i a31 j k m o p a37 q r a40 s t u w x a46 y z a49 A a51 B a53 C D E F G a59 H K L M N O P Q R S a70 T a72 U V a75 a76 W X Y a80 Z bb Gb gc a85 lc a87 rc fd v:α}{l id:List α}{n:Nat}(h:uc l n v id):uc (a0::oa::a2::a3::a4::a5::Sb::Jb::Pb::a9::Kd::Gc::a12::a::hc::b::c::Mc::d::e::a20::a21::a22::a23::a24::a25::a26::f::a28::g::i::a31::j::k::m::o::p::a37::q::r::a40::s::t::u::w::x::a46::y::z::a49::A::a51::B::a53::C::D::E::F::G::a59::H::K::L::M::N::O::P::Q::R::S::a70::T::a72::U::V::a75::a76::W::X::Y::a80::Z::bb::Gb::gc::a85::lc::a87::rc::fd::l) (n+90) v (a0::oa::a2::a3::a4::a5::Sb::Jb::Pb::a9::Kd::Gc::a12::a::hc::b::c::Mc::d::e::a20::a21::a22::a23::a24::a25::a26::f::a28::g::i::a31::j::k::m::o::p::a37::q::r::a40::s::t::u::w::x::a46::y::z::a49::A::a51::B::a53::C::D::E::F::G::a59::H::K::L::M::N::O::P::Q::R::S::a70::T::a72::U::V::a75::a76::W::X::Y::a80::Z::bb::Gb::gc::a85::lc::a87::rc::fd::id):=by unfold uc at *;subst h;rfl
theorem Xa {α:Type}{a0 oa a2 a3 a4 a5 Sb Jb Pb a9 Kd Gc a12 a hc b c Mc d e a20 a21 a22 a23 a24 a25 a26 f a28 g i a31 j k m o p a37 q r a40 s t u w x a46 y z a49 A a51 B a53 C D E F G a59 H K L M N O P Q R S a70 T a72 U V a75 a76 W X Y a80 Z bb Gb gc a85 lc a87 rc fd id a91 md a93 nd rd wd Fd Id be v:α}{l:List α}{n:Nat}(h:nc l n v):nc (a0::oa::a2::a3::a4::a5::Sb::Jb::Pb::a9::Kd::Gc::a12::a::hc::b::c::Mc::d::e::a20::a21::a22::a23::a24::a25::a26::f::a28::g::i::a31::j::k::m::o::p::a37::q::r::a40::s::t::u::w::x::a46::y::z::a49::A::a51::B::a53::C::D::E::F::G::a59::H::K::L::M::N::O::P::Q::R::S::a70::T::a72::U::V::a75::a76::W::X::Y::a80::Z::bb::Gb::gc::a85::lc::a87::rc::fd::id::a91::md::a93::nd::rd::wd::Fd::Id::be::l) (n+100) v:=h
theorem Qb {α:Type}{a0 oa a2 a3 a4 a5 Sb Jb Pb a9 Kd Gc a12 a hc b c Mc d e a20 a21 a22 a23 a24 a25 a26 f a28 g i a31 j k m o p a37 q r a40 s t u w x a46 y z a49 A a51 B a53 C D E F G a59 H K L M N O P Q R S a70 T a72 U V a75 a76 W X Y a80 Z bb Gb gc a85 lc a87 rc fd id a91 md a93 nd rd wd Fd Id be v:α}{l ce:List α}{n:Nat}(h:uc l n v ce):uc (a0::oa::a2::a3::a4::a5::Sb::Jb::Pb::a9::Kd::Gc::a12::a::hc::b::c::Mc::d::e::a20::a21::a22::a23::a24::a25::a26::f::a28::g::i::a31::j::k::m::o::p::a37::q::r::a40::s::t::u::w::x::a46::y::z::a49::A::a51::B::a53::C::D::E::F::G::a59::H::K::L::M::N::O::P::Q::R::S::a70::T::a72::U::V::a75::a76::W::X::Y::a80::Z::bb::Gb::gc::a85::lc::a87::rc::fd::id::a91::md::a93::nd::rd::wd::Fd::Id::be::l) (n+100) v (a0::oa::a2::a3::a4::a5::Sb::Jb::Pb::a9::Kd::Gc::a12::a::hc::b::c::Mc::d::e::a20::a21::a22::a23::a24::a25::a26::f::a28::g::i::a31::j::k::m::o::p::a37::q::r::a40::s::t::u::w::x::a46::y::z::a49::A::a51::B::a53::C::D::E::F::G::a59::H::K::L::M::N::O::P::Q::R::S::a70::T::a72::U::V::a75::a76::W::X::Y::a80::Z::bb::Gb::gc::a85::lc::a87::rc::fd::id::a91::md::a93::nd::rd::wd::Fd::Id::be::ce):=by unfold uc at *;subst h;rfl
end Go.Rb
namespace Go.Rb
open Go.RowKit
section
variable {P:Program}{Q:Exit→Act→World→Prop}{K:List Value→List Deferred→World→Prop}{fr Ga:List Value}{ds:List Deferred}{w:World}
variable {dst:Option Tmp}{ty:TypeId}{pos:String}{after:Array Edge}{g:Option (Nat×Bool)}
variable {S ld:Nat→Prop}{ca:World}{rs rs':List kb}{A:World→Prop}
variable {T:TypeId}
inductive Nk:TypeDesc→Value→Prop where
 | str (l:List UInt8):Nk .string (Rb.S l)
 | int (k:IntKind) (n:Int):Nk (.int k) (.int k n)
def rl:Value→Value→Bool
 | .string a,.string b=>decide (a.data.toList=b.data.toList)
 | .int _ a,.int _ b=>decide (a=b)
 | _,_=>false
def Lk (es:List MapEntry) (k:Value):Option (Nat×Value):=(es.zipIdx.find? fun e=>rl k e.1.key).map fun e=>(e.2,e.1.val)
theorem rH {d:TypeDesc}{k:Value}(a:Nk d k):∀ (es:List MapEntry) (i:Nat),(∀ e ∈ es,Nk d e.key)→Instr.findNow d k es i=some (((es.zipIdx i).find? fun e=>rl k e.1.key).map fun e=>(e.2,e.1.val)):=by
 intro es
 induction es with
 | nil=>intro i _; simp [Instr.findNow]
 | cons e es b =>
  intro i h;have he:=h e (by simp);have c:=b (i+1) fun x f=>h x (by simp [f]);simp only [Instr.findNow,List.zipIdx_cons,List.find?_cons];have g:Instr.sameNow d k e.key=some (rl k e.key):=by
   generalize e.key=k' at he;cases a with
   | str l =>
    cases he with
    | str j =>
     simp only [Instr.sameNow,Rb.S,rl];congr 1;rw [Bool.eq_iff_iff,sA];simp
   | int kk n =>
    cases he with
    | int _ m =>
     simp only [Instr.sameNow,if_true,rl];congr 1
  rw [g];cases o:rl k e.key with
  | true=>simp
  | false=>exact c
theorem run_findKey {nf:TypeId}{d:TypeDesc}{k:Value}{es:List MapEntry}(a:P.underlying nf=some d) (b:Nk d k) (he:∀ e ∈ es,Nk d e.key):(Instr.findKey nf k es).run P w=.ok (Lk es k) w:=by
 unfold Instr.findKey Lk;simp only [Sem.run_bind,run_underlying a,Result.andThen_ok,rH b es 0 he];rfl
theorem run_checkKey {nf:TypeId}{d:TypeDesc}{k:Value}{b:Bool}(a:P.underlying nf=some d) (c:Nk d k):(Instr.checkKey b 10000 nf k).run P w=.ok () w:=by
 show (Instr.checkKey b (9999+1) nf k).run P w=_;unfold Instr.checkKey;simp only [Sem.run_bind,run_underlying a,Result.andThen_ok];cases c<;>rfl
theorem Um (a:Sep S ld ca w rs A) (h:∀ b w',w.heap.size≤b→Sep S ld ca w' (.map b [] 0::rs) A→Hh fr dst (.map (some b)) fun Ga=>K Ga ds w'):Td P (Oper.mk dst (.makeMap T none) ty pos after g) fr ds w K Q:=by
 obtain ⟨Ga,xa⟩:=vj fr dst (.map (some w.heap.size));refine qi (v:=.map (some w.heap.size)) (w':=w.alloc (.map #[] 0)) ?_ xa (h _ _ (Nat.le_refl _) (a.alloc rfl (heap_alloc_new w _)) Ga xa);simp [execOp,Instr.makeMap]
def Xm (es:List MapEntry) (k z:Value):Value:=(Lk es k).elim z (·.2)
def Pt (es:List MapEntry) (k:Value):Bool:=(Lk es k).isSome
def putAt (es:List MapEntry) (c:Nat) (k v:Value):List MapEntry:=match Lk es k with
 | some (i,_)=>es.modify i fun e=>{ e with key:=k,val:=v }
 | none=>es++[{ key:=k,val:=v,born:=c }]
def Tj (es:List MapEntry) (c:Nat) (k:Value):Nat:=match Lk es k with
 | some _=>c
 | none=>c+1
theorem Qz {es:List MapEntry}{k v:Value}{i:Nat}(h:Lk es k=some (i,v)):∃ e,es[i]?=some e∧rl k e.key=true∧e.val=v:=by
 unfold Lk at h;cases a:es.zipIdx.find? fun e=>rl k e.1.key with
 | none=>rw [a] at h; cases h
 | some x =>
  rw [a] at h;simp only [Option.map_some,Option.some.injEq,Prod.mk.injEq] at h;obtain ⟨rfl,rfl⟩:=h;have b:=List.find?_some (p:=fun e:MapEntry×Nat=>rl k e.1.key) a;have c:=List.mem_of_find?_eq_some a;exact ⟨x.1,by have:=List.mem_zipIdx_iff_getElem?.1 c;simpa using this,b,rfl⟩
theorem zD {d:TypeDesc}{k k':Value}(b:Nk d k) (a:Nk d k') (h:rl k k'=true):Instr.sameBits 10000 k' k=true:=by
 cases b with
 | str l =>
  cases a with
  | str c =>
   simp [rl,Rb.S] at h;subst h;simp only [Instr.sameBits,Rb.S];exact (sA _ _).2 rfl
 | int kk n =>
  cases a with
  | int _ e =>
   simp [rl] at h;subst h;simp [Instr.sameBits]
theorem VE {x y z:Operand}{nf aa:TypeId}{d:TypeDesc}{kv v:Value}{b c k:Nat}{es:List MapEntry}(m:P.underlying T=some (.map nf aa)) (n:P.underlying nf=some d) (o:ob fr x (.map (some b))) (p:ob fr y kv) (a:Nk d kv) (q:ob fr z v)
  (r:Sep S ld ca w rs A) (ia:nc rs k (.map b es c)) (he:∀ e ∈ es,Nk d e.key)
  (xa:lf fr dst undef Ga) (h:∀ w' rs',uc rs k (.map b (putAt es c kv v) (Tj es c kv)) rs'→Sep S ld ca w' rs' A→K Ga ds w'):Td P (Oper.mk dst (.mapUpdate T x y z) ty pos after g) fr ds w K Q:=by
 have f:w.heap[b]?=some (.map ⟨es⟩ c):=r.get ia;have C:b<w.heap.size:=(Array.getElem?_eq_some_iff.1 f).1
 let w':World:={ w with heap:=w.heap.setIfInBounds b (.map ⟨putAt es c kv v⟩ (Tj es c kv)) }
 have D:bj (fun k=>k≠b) w w':=⟨rfl,rfl,rfl,by simp [w'],fun j _ E=>by simp [w',Array.getElem?_setIfInBounds,Ne.symm E]⟩;have F:=r.put (b:=b) (r':=.map b (putAt es c kv v) (Tj es c kv)) (w':=w') ia rfl rfl rfl (by show w'.heap[b]?=_;simp [w',C]) D;have s:=run_checkKey (P:=P) (w:=w) (b:=false) n a;have t:=run_findKey (P:=P) (w:=w) n a he;refine NB (w':=w') ?_ xa (h w' _ rfl F);cases l:Lk es kv with
 | none=>simp [execOp,o ds,p ds,q ds,Instr.mapUpdate,run_underlying m,getObj,setObj,Sem.run,f,Result.andThen,s,t,l,w',putAt,Tj]
 | some e =>
  obtain ⟨i,u⟩:=e;obtain ⟨e,B,G,-⟩:=Qz l;have H:=zD a (he e (List.mem_of_getElem? B)) G;simp [execOp,o ds,p ds,q ds,Instr.mapUpdate,run_underlying m,getObj,setObj,Sem.run,f,Result.andThen,s,t,l,B,Instr.keyThatStays,H,w',putAt,Tj]
theorem MI {x:Operand}{nf aa:TypeId}{m c k:Nat}{es:List MapEntry}(d:P.underlying T=some (.map nf aa)) (e:ob fr x (.map (some m))) (a:Sep S ld ca w rs A) (ia:nc rs k (.map m es c))
  (h:∀ b w',w.heap.size≤b→Sep S ld ca w' (.en b m c [] c::rs) A→Hh fr dst (.pointer (some ⟨b,0,none⟩)) fun Ga=>K Ga ds w'):Td P (Oper.mk dst (.range T x) ty pos after g) fr ds w K Q:=by
 have f:w.heap[m]?=some (.map ⟨es⟩ c):=a.get ia;obtain ⟨Ga,xa⟩:=vj fr dst (.pointer (some ⟨w.heap.size,0,none⟩));refine qi (v:=.pointer (some ⟨w.heap.size,0,none⟩)) (w':=w.alloc (.mapIter (some m) c #[] c)) ?_ xa (h _ _ (Nat.le_refl _) (a.alloc rfl (heap_alloc_new w _)) Ga xa);simp [execOp,e ds,Instr.range,run_underlying d,getObj,Sem.run,f,Result.andThen]
end
end Go.Rb
namespace Go.ec
open Go.Rb Go.RowKit
section
variable {P:Program}{Q:Exit→Act→World→Prop}{K:List Value→List Deferred→World→Prop}{fr Ga:List Value}{ds:List Deferred}{w:World}
variable {dst:Option Tmp}{ty:TypeId}{pos:String}{after:Array Edge}{g:Option (Nat×Bool)}
variable {ca:World}{rs rs':List kb}{μ J:M}
variable {T:TypeId}{d:TypeDesc}{td:Bool}{yd:List Value}{n m:Nat}
theorem mE {x y:Operand}{nf aa:TypeId}{d:TypeDesc}{kv z:Value}{b c:Nat}{es:List MapEntry}(a:P.underlying T=some (.map nf aa)) (f:P.underlying nf=some d) (i:ob fr x (.map (some b))) (j:ob fr y kv) (k:Nk d kv)
  (p:∀ w,(zeroValue aa).run P w=.ok z w) (l:w.heap[b]?=some (.map ⟨es⟩ c)) (he:∀ e ∈ es,Nk d e.key)
  (q:lf fr dst (Xm es kv z) Ga) (h:K Ga ds w):Td P (Oper.mk dst (.lookup T x y false) ty pos after g) fr ds w K Q:=by
 refine qi (w':=w) ?_ q h;have m:=run_checkKey (w:=w) (b:=es.isEmpty) f k;have n:=run_findKey (w:=w) f k he;cases o:Lk es kv with
 | none=>simp [execOp,i ds,j ds,Instr.lookup,run_underlying a,getObj,Sem.run,l,Result.andThen,m,n,o,p w,Xm]
 | some e=>simp [execOp,i ds,j ds,Instr.lookup,run_underlying a,getObj,Sem.run,l,Result.andThen,m,n,o,Xm]
theorem RD {x y:Operand}{nf aa:TypeId}{d:TypeDesc}{kv z:Value}{b c:Nat}{es:List MapEntry}(a:P.underlying T=some (.map nf aa)) (f:P.underlying nf=some d) (i:ob fr x (.map (some b))) (j:ob fr y kv) (k:Nk d kv)
  (p:∀ w,(zeroValue aa).run P w=.ok z w) (l:w.heap[b]?=some (.map ⟨es⟩ c)) (he:∀ e ∈ es,Nk d e.key)
  (q:lf fr dst (.tuple #[Xm es kv z,.bool (Pt es kv)]) Ga) (h:K Ga ds w):Td P (Oper.mk dst (.lookup T x y true) ty pos after g) fr ds w K Q:=by
 refine qi (w':=w) ?_ q h;have m:=run_checkKey (w:=w) (b:=es.isEmpty) f k;have n:=run_findKey (w:=w) f k he;cases o:Lk es kv with
 | none=>simp [execOp,i ds,j ds,Instr.lookup,run_underlying a,getObj,Sem.run,l,Result.andThen,m,n,o,p w,Xm,Pt]
 | some e=>simp [execOp,i ds,j ds,Instr.lookup,run_underlying a,getObj,Sem.run,l,Result.andThen,m,n,o,Xm,Pt]
class tb (κ:Type) [DecidableEq κ] where
 key:κ→Value
 xd:TypeDesc
 nf:∀ k,Nk xd (key k)
 eq:∀ a b,rl (key a) (key b)=decide (a=b)
instance:tb (List UInt8) where
 key:=S
 xd:=.string
 nf:=.str
 eq a b:=by simp [rl,S]
class Zh (β:Type) where
 Hj:M→Value→β→Prop
 up:∀ {μ J:M}{v:Value}{x:β},ga μ J→Hj μ v x→Hj J v x
instance:Zh Int where
 Hj _ v x:=v=.int .i64 x
 up _ h:=h
def ku {α:Type}[ab α] (μ:M) (v:Value) (x:α):Prop:=∃ cs,v=.agg ⟨cs⟩∧ab.cs μ cs x
theorem ku.up {α:Type}[ab α]{v:Value}{x:α}(l:ga μ J) (h:ku μ v x):ku J v x:=by
 obtain ⟨cs,a,b⟩:=h;exact ⟨cs,a,ab.up l b⟩
def We {α:Type}[ab α] (μ:M) (v:Value) (x:α):Prop:=∃ b o cs,v=.pointer (some ⟨b,o,none⟩)∧Aa μ b o cs∧ab.cs μ cs x
theorem We.up {α:Type}[ab α]{v:Value}{x:α}(l:ga μ J) (h:We μ v x):We J v x:=by
 obtain ⟨b,o,cs,a,c,d⟩:=h;exact ⟨b,o,cs,a,c.up l,ab.up l d⟩
def Ki {α:Type}[ab α] (μ:M) (v:Value):Option α→Prop
 | none=>v=.pointer none
 | some x=>We μ v x
theorem Ki.up {α:Type}[ab α]{v:Value}{x:Option α}(h:Ki μ v x) (l:ga μ J):Ki J v x:=by
 cases x with
 | none=>exact h
 | some x=>exact We.up l h
theorem Ki.Kg {α:Type}[ab α]{v:Value}{x:Option α}(h:Ki μ v x):Kg v=true:=by
 cases x with
 | none=>rw [show v=.pointer none from h]; rfl
 | some x=>obtain ⟨b,o,cs,rfl,-⟩:=h; rfl
theorem Ki.of {α:Type}[ab α]{b o:Nat}{cs:List Value}{x:α}(h:Aa μ b o cs) (k:ab.cs μ cs x):Ki μ (.pointer (some ⟨b,o,none⟩)) (some x):=⟨b,o,cs,rfl,h,k⟩
theorem Ki.get {α:Type}[ab α]{v:Value}{o:Option α}{x:α}(h:Ki μ v o) (g:o=some x):∃ b o cs,v=.pointer (some ⟨b,o,none⟩)∧Aa μ b o cs∧ab.cs μ cs x:=by
 subst g;exact h
instance {α:Type}[ab α]:ab (Option α) where
 sz:=1
 pos:=by decide
 cs μ l x:=∃ v,l=[v]∧Ki μ v x
 sj h:=by obtain ⟨v,rfl,-⟩:=h;rfl
 up l h:=by obtain ⟨v,a,b⟩:=h;exact ⟨v,a,b.up l⟩
 Yh h:=by obtain ⟨v,rfl,h⟩:=h;simp [h.Kg]
def Ua {κ β:Type}[DecidableEq κ]:List (κ×β)→κ→Option β
 | [],_=>none
 | (a,b)::m,k=>if a=k then some b else Ua m k
def zd {κ β:Type}[DecidableEq κ]:List (κ×β)→κ→β→List (κ×β)
 | [],k,x=>[(k,x)]
 | (a,b)::m,k,x=>if a=k then (k,x)::m else (a,b)::zd m k x
def rh {κ β:Type}[DecidableEq κ] [tb κ] [Zh β] (μ:M):List MapEntry→List (κ×β)→Prop
 | [],m=>m=[]
 | e::es,m=>∃ k x t,m=(k,x)::t∧e.key=tb.key k∧Zh.Hj μ e.val x∧rh μ es t
structure ag {κ β:Type}[DecidableEq κ] [tb κ] [Zh β] (μ:M) (es:List MapEntry) (c:Nat) (m:List (κ×β)):Prop where
 kv:rh μ es m
 lt:∀ e ∈ es,e.born<c
 inc:es.Pairwise fun a b=>a.born<b.born
variable {κ β:Type}[DecidableEq κ] [tb κ] [Zh β]
theorem rh.up (l:ga μ J):∀ {es:List MapEntry}{m:List (κ×β)},rh μ es m→rh J es m
 | [],m,h=>by rw [rh] at h ⊢; exact h
 | e::es,m,h=>by
  rw [rh] at h ⊢;obtain ⟨k,x,t,a,b,c,d⟩:=h;exact ⟨k,x,t,a,b,Zh.up l c,rh.up l d⟩
theorem ag.up {es:List MapEntry}{c:Nat}{m:List (κ×β)}(h:ag μ es c m) (l:ga μ J):ag J es c m:=⟨h.kv.up l,h.lt,h.inc⟩
theorem rh.keys:∀ {es:List MapEntry}{m:List (κ×β)},rh μ es m→∀ e ∈ es,Nk (tb.xd (κ:=κ)) e.key
 | [],m,_,e,he=>by cases he
 | e::es,m,h,a,he=>by
  rw [rh] at h;obtain ⟨k,x,t,d,b,f,c⟩:=h;rcases List.mem_cons.1 he with rfl | he
  ·rw [b];exact tb.nf k
  ·exact rh.keys c a he
def Gm (kv:Value):List MapEntry→Option (Nat×Value)
 | []=>none
 | e::es=>if rl kv e.key then some (0,e.val) else (Gm kv es).map fun p=>(p.1+1,p.2)
theorem nE (kv:Value):∀ (es:List MapEntry) (i:Nat),(((es.zipIdx i).find? fun e=>rl kv e.1.key).map fun e=>(e.2,e.1.val))=(Gm kv es).map fun p=>(p.1+i,p.2)
 | [],i=>rfl
 | e::es,i=>by
  rw [List.zipIdx_cons,List.find?_cons,Gm];cases h:rl kv e.key with
  | true=>simp
  | false =>
   simp only [Bool.false_eq_true,if_false];rw [nE kv es (i+1),Option.map_map];congr 1;funext p;simp;omega
theorem Rx (es:List MapEntry) (kv:Value):Lk es kv=Gm kv es:=by
 unfold Lk;rw [nE];cases Gm kv es<;>simp
theorem rh.look:∀ {es:List MapEntry}{m:List (κ×β)},rh μ es m→∀ k:κ,(match Gm (tb.key k) es with | none=>Ua m k=none | some p=>∃ x,Ua m k=some x∧Zh.Hj μ p.2 x)
 | [],m,h,k=>by rw [rh] at h; subst h; rfl
 | e::es,m,h,k=>by
  rw [rh] at h;obtain ⟨k',x,t,rfl,d,f,g⟩:=h;rw [Gm,Ua,d,tb.eq];have a:=rh.look g k;by_cases b:k=k'
  ·subst b;simp;exact f
  ·rw [if_neg (by simpa using b),if_neg (fun e=>b e.symm)];cases c:Gm (tb.key k) es with
   | none=>rw [c] at a; exact a
   | some p=>rw [c] at a; exact a
theorem rh.get {es:List MapEntry}{m:List (κ×β)}(h:rh μ es m) (k:κ){z:Value}{zx:β}(b:Zh.Hj μ z zx):Zh.Hj μ (Xm es (tb.key k) z) ((Ua m k).getD zx):=by
 have:=h.look k;unfold Xm;rw [Rx];cases a:Gm (tb.key k) es with
 | none=>rw [a] at this; simp only at this; rw [this]; exact b
 | some p=>rw [a] at this; obtain ⟨x,c,d⟩:=this; rw [c]; exact d
theorem rh.has {es:List MapEntry}{m:List (κ×β)}(h:rh μ es m) (k:κ):Pt es (tb.key k)=(Ua m k).isSome:=by
 have:=h.look k;unfold Pt;rw [Rx];cases a:Gm (tb.key k) es with
 | none=>rw [a] at this; simp only at this; rw [this]; rfl
 | some p=>rw [a] at this; obtain ⟨x,b,c⟩:=this; rw [b]; rfl
theorem rh.put:∀ {es:List MapEntry}{m:List (κ×β)},rh μ es m→∀ (k:κ){v:Value}{x:β},Zh.Hj μ v x→∀ c,rh μ (match Gm (tb.key k) es with | some (i,_)=>es.modify i fun e=>{ e with key:=tb.key k,val:=v } | none=>es++[{ key:=tb.key k,val:=v,born:=c }]) (zd m k x)
 | [],m,h,k,v,x,a,c=>by
  rw [rh] at h;subst h;exact ⟨k,x,[],rfl,rfl,a,rfl⟩
 | e::es,m,h,k,v,x,a,c=>by
  rw [rh] at h;obtain ⟨k',g,t,rfl,d,j,l⟩:=h;rw [Gm,zd,d,tb.eq];have b:=rh.put l k a c;by_cases f:k=k'
  ·subst f;simp;exact ⟨k,x,t,rfl,rfl,a,l⟩
  ·rw [if_neg (by simpa using f),if_neg (fun e=>f e.symm)];cases n:Gm (tb.key k) es with
   | none=>rw [n] at b; exact ⟨k',g,_,rfl,d,j,b⟩
   | some p=>rw [n] at b; exact ⟨k',g,_,rfl,d,j,b⟩
theorem ag.put {es:List MapEntry}{c:Nat}{m:List (κ×β)}(h:ag μ es c m) (k:κ){v:Value}{x:β}(n:Zh.Hj μ v x):ag μ (putAt es c (tb.key k) v) (Tj es c (tb.key k)) (zd m k x):=by
 have d:=h.kv.put k n c;have qa:∀ i,(es.modify i fun e=>{ e with key:=tb.key k,val:=v }).map (·.born)=es.map (·.born):=by
  intro i;refine List.ext_getElem (by simp) fun j w y=>?_;simp only [List.getElem_map,List.getElem_modify];split<;>rfl
 have o:∀ l:List MapEntry,l.map (·.born)=es.map (·.born)→∀ e ∈ l,e.born<c:=fun l ia e he=>by
  have hm:e.born ∈ es.map (·.born):=ia ▸ List.mem_map_of_mem he;obtain ⟨q,r,f⟩:=List.mem_map.1 hm;rw [← f];exact h.lt q r
 have s:∀ l:List MapEntry,l.map (·.born)=es.map (·.born)→l.Pairwise fun a b=>a.born<b.born:=fun l ia=>by
  have:(es.map (·.born)).Pairwise (·<·):=List.pairwise_map.2 h.inc;rw [← ia] at this;exact List.pairwise_map.1 this
 unfold putAt Tj;rw [Rx];cases g:Gm (tb.key k) es with
 | some p =>
  obtain ⟨i,u⟩:=p;rw [g] at d;exact ⟨d,o _ (qa i),s _ (qa i)⟩
 | none =>
  rw [g] at d;refine ⟨d,fun e he=>?_,?_⟩
  ·rcases List.mem_append.1 he with he | he
   ·exact Nat.lt_succ_of_lt (h.lt e he)
   ·simp at he;subst he;exact Nat.lt_succ_self _
  ·rw [List.pairwise_append];refine ⟨h.inc,by simp,fun a t b f=>?_⟩;simp at f;subst f;exact h.lt a t
theorem ag.nil {c:Nat}:ag (κ:=κ) (β:=β) μ [] c []:=⟨rfl,by simp,by simp⟩
def Oh (μ:M) (b:Nat) (m:List (κ×β)):Prop:=∃ es c,(∀ w,μ w→w.heap[b]?=some (.map ⟨es⟩ c))∧ag μ es c m
theorem Oh.up {b:Nat}{m:List (κ×β)}(h:Oh μ b m) (l:ga μ J):Oh J b m:=by
 obtain ⟨es,c,a,d⟩:=h;exact ⟨es,c,fun w hw=>a w (l w hw),d.up l⟩
theorem _root_.Go.Rb.Sep.Io {b c:Nat}{es:List MapEntry}{m:List (κ×β)}(h:ha μ ca w (.map b es c::rs)) (hm:ag μ es c m):∃ J,ga μ J∧Oh J b m∧ha J ca w rs :=
 ⟨_,fun _ hw=>hw.1,⟨es,c,fun _ hw=>hw.2,hm.up fun _ hw=>hw.1⟩,Sep.pz (B:=fun w=>w.heap[b]?=some (.map ⟨es⟩ c)) h fun _ hw=>hw⟩
theorem RJ {x y:Operand}{nf aa:TypeId}{z:Value}{b c:Nat}{es:List MapEntry}{m:List (κ×β)}{k:κ}{zx:β}(a:P.underlying T=some (.map nf aa)) (d:P.underlying nf=some (tb.xd (κ:=κ))) (e:ob fr x (.map (some b))) (f:ob fr y (tb.key k))
  (i:∀ w,(zeroValue aa).run P w=.ok z w) (j:Zh.Hj μ z zx) (l:w.heap[b]?=some (.map ⟨es⟩ c)) (he:ag μ es c m)
  (h:∀ v,Zh.Hj μ v ((Ua m k).getD zx)→Hh fr dst (.tuple #[v,.bool (Ua m k).isSome]) fun Ga=>K Ga ds w):Td P (Oper.mk dst (.lookup T x y true) ty pos after g) fr ds w K Q:=by
 obtain ⟨Ga,xa⟩:=vj fr dst (.tuple #[Xm es (tb.key k) z,.bool (Pt es (tb.key k))]);refine RD a d e f (tb.nf k) i l he.kv.keys xa ?_;rw [he.kv.has k] at xa;exact h _ (he.kv.get k j) Ga xa
theorem Vp {x y:Operand}{nf aa:TypeId}{z:Value}{b c:Nat}{es:List MapEntry}{m:List (κ×β)}{k:κ}{zx:β}(a:P.underlying T=some (.map nf aa)) (d:P.underlying nf=some (tb.xd (κ:=κ))) (e:ob fr x (.map (some b))) (f:ob fr y (tb.key k))
  (i:∀ w,(zeroValue aa).run P w=.ok z w) (j:Zh.Hj μ z zx) (l:w.heap[b]?=some (.map ⟨es⟩ c)) (he:ag μ es c m)
  (h:∀ v,Zh.Hj μ v ((Ua m k).getD zx)→Hh fr dst v fun Ga=>K Ga ds w):Td P (Oper.mk dst (.lookup T x y false) ty pos after g) fr ds w K Q:=by
 obtain ⟨Ga,xa⟩:=vj fr dst (Xm es (tb.key k) z);refine mE a d e f (tb.nf k) i l he.kv.keys xa ?_;exact h _ (he.kv.get k j) Ga xa
theorem rh.VF {α:Type}[ab α] [Zh α] (hrv:∀ (v:Value) (x:α),Zh.Hj μ v x→We μ v x){es:List MapEntry}{m:List (κ×α)}(h:rh μ es m) (k:κ):Ki μ (Xm es (tb.key k) (.pointer none)) (Ua m k):=by
 have:=h.look k;unfold Xm;rw [Rx];cases a:Gm (tb.key k) es with
 | none=>rw [a] at this; simp only at this; rw [this]; rfl
 | some p=>rw [a] at this; obtain ⟨x,b,c⟩:=this; rw [b]; exact hrv _ _ c
theorem SD {α:Type}[ab α] [Zh α] (hrv:∀ (v:Value) (x:α),Zh.Hj μ v x→We μ v x){x y:Operand}{nf aa:TypeId}{b c:Nat}{es:List MapEntry}{m:List (κ×α)}{k:κ}(a:P.underlying T=some (.map nf aa)) (d:P.underlying nf=some (tb.xd (κ:=κ))) (e:ob fr x (.map (some b))) (f:ob fr y (tb.key k))
  (i:∀ w,(zeroValue aa).run P w=.ok (.pointer none) w) (j:w.heap[b]?=some (.map ⟨es⟩ c)) (he:ag μ es c m)
  (h:∀ v,Ki μ v (Ua m k)→Hh fr dst (.tuple #[v,.bool (Ua m k).isSome]) fun Ga=>K Ga ds w):Td P (Oper.mk dst (.lookup T x y true) ty pos after g) fr ds w K Q:=by
 obtain ⟨Ga,xa⟩:=vj fr dst (.tuple #[Xm es (tb.key k) (.pointer none),.bool (Pt es (tb.key k))]);refine RD a d e f (tb.nf k) i j he.kv.keys xa ?_;rw [he.kv.has k] at xa;exact h _ (he.kv.VF hrv k) Ga xa
theorem Yx {α:Type}[ab α] [Zh α] (hrv:∀ (v:Value) (x:α),Zh.Hj μ v x→We μ v x){x y:Operand}{nf aa:TypeId}{b c:Nat}{es:List MapEntry}{m:List (κ×α)}{k:κ}(a:P.underlying T=some (.map nf aa)) (d:P.underlying nf=some (tb.xd (κ:=κ))) (e:ob fr x (.map (some b))) (f:ob fr y (tb.key k))
  (i:∀ w,(zeroValue aa).run P w=.ok (.pointer none) w) (j:w.heap[b]?=some (.map ⟨es⟩ c)) (he:ag μ es c m)
  (h:∀ v,Ki μ v (Ua m k)→Hh fr dst v fun Ga=>K Ga ds w):Td P (Oper.mk dst (.lookup T x y false) ty pos after g) fr ds w K Q:=by
 obtain ⟨Ga,xa⟩:=vj fr dst (Xm es (tb.key k) (.pointer none));refine mE a d e f (tb.nf k) i j he.kv.keys xa ?_;exact h _ (he.kv.VF hrv k) Ga xa
theorem Qt {aa:TypeId}{z:Value}(h:(P.info? aa).map (fun i=>i.zero)=some (some z)):∀ w,(zeroValue aa).run P w=.ok z w:=fun w=>by
 cases a:P.info? aa with
 | none=>rw [a] at h; cases h
 | some i =>
  rw [a] at h;simp only [Option.map_some,Option.some.injEq] at h;simp [zeroValue,typeInfo,a,h]
theorem Zv {x y z:Operand}{nf aa:TypeId}{v:Value}{b c k:Nat}{es:List MapEntry}{kk:κ}{m:List (κ×β)}{xx:β}(d:P.underlying T=some (.map nf aa)) (e:P.underlying nf=some (tb.xd (κ:=κ))) (f:ob fr x (.map (some b))) (i:ob fr y (tb.key kk)) (j:ob fr z v) (l:Zh.Hj μ v xx)
  (n:ha μ ca w rs) (ia:nc rs k (.map b es c)) (he:ag μ es c m)
  (xa:lf fr dst undef Ga) (h:∀ a c' w' rs',ag μ a c' (zd m kk xx)→uc rs k (.map b a c') rs'→ha μ ca w' rs'→K Ga ds w'):Td P (Oper.mk dst (.mapUpdate T x y z) ty pos after g) fr ds w K Q :=
 VE d e f i (tb.nf kk) j n ia he.kv.keys xa fun w' rs'=>h _ _ w' rs' (he.put kk l)
theorem om {x y z:Operand}{nf aa:TypeId}{v:Value}{b c k:Nat}{es:List MapEntry}{kk:κ}{m:List (κ×β)}{xx:β}(d:P.underlying T=some (.map nf aa)) (e:P.underlying nf=some (tb.xd (κ:=κ))) (f:ob fr x (.map (some b))) (i:ob fr y (tb.key kk)) (j:ob fr z v) (l:Zh.Hj μ v xx)
  (n:ha μ ca w rs) (ia:nc rs k (.map b es c)) (he:ag μ es c m)
  (xa:lf fr dst undef Ga) (h:∀ a c' w' rs',ag μ a c' (zd m kk xx)→uc rs k (.map b a c') rs'→ha μ ca w' rs'→K Ga ds w'):Td P (Oper.mk dst (.insert T x y z) ty pos after g) fr ds w K Q :=
 ⟨fun o p=>(Zv (dst:=dst) (ty:=ty) (pos:=pos) (after:=after) (g:=g) d e f i j l n ia he xa h).out o p⟩
end
end Go.ec
namespace Go.Rb
abbrev Fi (m:List tb):List tb:=.k::m
abbrev te (s:Nat) (m:List tb):List tb:=.o s::m
theorem Gf {m:List tb}{a0:Value}{l a:List Value}(h:ie m l a):ie (Fi m) (a0::l) (a0::a):=(.k h)
theorem Fb {m:List tb}{s:Nat}{a0 b:Value}{l a:List Value}(h:ie m l a):ie (te s m) (a0::l) (b::a):=(.o h)
theorem fj {t:Nat→Value}{m:List tb}{a0:Value}{l a:List Value}(h:mf t m l a):mf t (Fi m) (a0::l) (a0::a):=(mk h)
theorem Be {t:Nat→Value}{m:List tb}{s:Nat}{a0:Value}{l a:List Value}(h:mf t m l a):mf t (te s m) (a0::l) (t s::a):=(fb h)
abbrev Sg (m:List tb):List tb:=.k::.k::m
abbrev Nh (s:Nat) (m:List tb):List tb:=.o s::.o (s+1)::m
theorem Ed {m:List tb}{a0 oa:Value}{l a:List Value}(h:ie m l a):ie (Sg m) (a0::oa::l) (a0::oa::a):=(.k (.k h))
theorem qf {m:List tb}{s:Nat}{a0 oa b za:Value}{l a:List Value}(h:ie m l a):ie (Nh s m) (a0::oa::l) (b::za::a):=(.o (.o h))
theorem bh {t:Nat→Value}{m:List tb}{a0 oa:Value}{l a:List Value}(h:mf t m l a):mf t (Sg m) (a0::oa::l) (a0::oa::a):=(mk (mk h))
theorem ji {t:Nat→Value}{m:List tb}{s:Nat}{a0 oa:Value}{l a:List Value}(h:mf t m l a):mf t (Nh s m) (a0::oa::l) (t s::t (s+1)::a):=(fb (fb h))
abbrev oj (m:List tb):List tb:=.k::.k::.k::m
abbrev pj (s:Nat) (m:List tb):List tb:=.o s::.o (s+1)::.o (s+2)::m
theorem Wf {m:List tb}{a0 oa a2:Value}{l a:List Value}(h:ie m l a):ie (oj m) (a0::oa::a2::l) (a0::oa::a2::a):=(.k (.k (.k h)))
theorem yg {m:List tb}{s:Nat}{a0 oa a2 b za sd:Value}{l a:List Value}(h:ie m l a):ie (pj s m) (a0::oa::a2::l) (b::za::sd::a):=(.o (.o (.o h)))
theorem Zj {t:Nat→Value}{m:List tb}{a0 oa a2:Value}{l a:List Value}(h:mf t m l a):mf t (oj m) (a0::oa::a2::l) (a0::oa::a2::a):=(mk (mk (mk h)))
theorem ak {t:Nat→Value}{m:List tb}{s:Nat}{a0 oa a2:Value}{l a:List Value}(h:mf t m l a):mf t (pj s m) (a0::oa::a2::l) (t s::t (s+1)::t (s+2)::a):=(fb (fb (fb h)))
abbrev xi (m:List tb):List tb:=.k::.k::.k::.k::m
abbrev Rk (s:Nat) (m:List tb):List tb:=.o s::.o (s+1)::.o (s+2)::.o (s+3)::m
theorem Bf {m:List tb}{a0 oa a2 a3:Value}{l a:List Value}(h:ie m l a):ie (xi m) (a0::oa::a2::a3::l) (a0::oa::a2::a3::a):=(.k (.k (.k (.k h))))
theorem jh {m:List tb}{s:Nat}{a0 oa a2 a3 b za sd Nb:Value}{l a:List Value}(h:ie m l a):ie (Rk s m) (a0::oa::a2::a3::l) (b::za::sd::Nb::a):=(.o (.o (.o (.o h))))
theorem Qi {t:Nat→Value}{m:List tb}{a0 oa a2 a3:Value}{l a:List Value}(h:mf t m l a):mf t (xi m) (a0::oa::a2::a3::l) (a0::oa::a2::a3::a):=(mk (mk (mk (mk h))))
theorem sl {t:Nat→Value}{m:List tb}{s:Nat}{a0 oa a2 a3:Value}{l a:List Value}(h:mf t m l a):mf t (Rk s m) (a0::oa::a2::a3::l) (t s::t (s+1)::t (s+2)::t (s+3)::a):=(fb (fb (fb (fb h))))
abbrev ki (m:List tb):List tb:=.k::.k::.k::.k::.k::m
abbrev ur (s:Nat) (m:List tb):List tb:=.o s::.o (s+1)::.o (s+2)::.o (s+3)::.o (s+4)::m
theorem Xf {m:List tb}{a0 oa a2 a3 a4:Value}{l a:List Value}(h:ie m l a):ie (ki m) (a0::oa::a2::a3::a4::l) (a0::oa::a2::a3::a4::a):=(.k (.k (.k (.k (.k h)))))
theorem Hm {m:List tb}{s:Nat}{a0 oa a2 a3 a4 b za sd Nb c:Value}{l a:List Value}(h:ie m l a):ie (ur s m) (a0::oa::a2::a3::a4::l) (b::za::sd::Nb::c::a):=(.o (.o (.o (.o (.o h)))))
theorem yi {t:Nat→Value}{m:List tb}{a0 oa a2 a3 a4:Value}{l a:List Value}(h:mf t m l a):mf t (ki m) (a0::oa::a2::a3::a4::l) (a0::oa::a2::a3::a4::a):=(mk (mk (mk (mk (mk h)))))
theorem bu {t:Nat→Value}{m:List tb}{s:Nat}{a0 oa a2 a3 a4:Value}{l a:List Value}(h:mf t m l a):mf t (ur s m) (a0::oa::a2::a3::a4::l) (t s::t (s+1)::t (s+2)::t (s+3)::t (s+4)::a):=(fb (fb (fb (fb (fb h)))))
abbrev rk (m:List tb):List tb:=.k::.k::.k::.k::.k::.k::m
abbrev Lo (s:Nat) (m:List tb):List tb:=.o s::.o (s+1)::.o (s+2)::.o (s+3)::.o (s+4)::.o (s+5)::m
theorem Gg {m:List tb}{a0 oa a2 a3 a4 a5:Value}{l a:List Value}(h:ie m l a):ie (rk m) (a0::oa::a2::a3::a4::a5::l) (a0::oa::a2::a3::a4::a5::a):=(.k (.k (.k (.k (.k (.k h))))))
theorem Fk {m:List tb}{s:Nat}{a0 oa a2 a3 a4 a5 b za sd Nb c d:Value}{l a:List Value}(h:ie m l a):ie (Lo s m) (a0::oa::a2::a3::a4::a5::l) (b::za::sd::Nb::c::d::a):=(.o (.o (.o (.o (.o (.o h))))))
theorem Sk {t:Nat→Value}{m:List tb}{a0 oa a2 a3 a4 a5:Value}{l a:List Value}(h:mf t m l a):mf t (rk m) (a0::oa::a2::a3::a4::a5::l) (a0::oa::a2::a3::a4::a5::a):=(mk (mk (mk (mk (mk (mk h))))))
theorem yq {t:Nat→Value}{m:List tb}{s:Nat}{a0 oa a2 a3 a4 a5:Value}{l a:List Value}(h:mf t m l a):mf t (Lo s m) (a0::oa::a2::a3::a4::a5::l) (t s::t (s+1)::t (s+2)::t (s+3)::t (s+4)::t (s+5)::a):=(fb (fb (fb (fb (fb (fb h))))))
abbrev bk (m:List tb):List tb:=.k::.k::.k::.k::.k::.k::.k::m
abbrev Mo (s:Nat) (m:List tb):List tb:=.o s::.o (s+1)::.o (s+2)::.o (s+3)::.o (s+4)::.o (s+5)::.o (s+6)::m
theorem fh {m:List tb}{a0 oa a2 a3 a4 a5 Sb:Value}{l a:List Value}(h:ie m l a):ie (bk m) (a0::oa::a2::a3::a4::a5::Sb::l) (a0::oa::a2::a3::a4::a5::Sb::a):=(.k (.k (.k (.k (.k (.k (.k h)))))))
theorem Ri {m:List tb}{s:Nat}{a0 oa a2 a3 a4 a5 Sb b za sd Nb c d yh:Value}{l a:List Value}(h:ie m l a):ie (Mo s m) (a0::oa::a2::a3::a4::a5::Sb::l) (b::za::sd::Nb::c::d::yh::a):=(.o (.o (.o (.o (.o (.o (.o h)))))))
theorem Gk {t:Nat→Value}{m:List tb}{a0 oa a2 a3 a4 a5 Sb:Value}{l a:List Value}(h:mf t m l a):mf t (bk m) (a0::oa::a2::a3::a4::a5::Sb::l) (a0::oa::a2::a3::a4::a5::Sb::a):=(mk (mk (mk (mk (mk (mk (mk h)))))))
theorem zq {t:Nat→Value}{m:List tb}{s:Nat}{a0 oa a2 a3 a4 a5 Sb:Value}{l a:List Value}(h:mf t m l a):mf t (Mo s m) (a0::oa::a2::a3::a4::a5::Sb::l) (t s::t (s+1)::t (s+2)::t (s+3)::t (s+4)::t (s+5)::t (s+6)::a):=(fb (fb (fb (fb (fb (fb (fb h)))))))
abbrev tl (m:List tb):List tb:=.k::.k::.k::.k::.k::.k::.k::.k::m
abbrev No (s:Nat) (m:List tb):List tb:=.o s::.o (s+1)::.o (s+2)::.o (s+3)::.o (s+4)::.o (s+5)::.o (s+6)::.o (s+7)::m
theorem zi {m:List tb}{a0 oa a2 a3 a4 a5 Sb Jb:Value}{l a:List Value}(h:ie m l a):ie (tl m) (a0::oa::a2::a3::a4::a5::Sb::Jb::l) (a0::oa::a2::a3::a4::a5::Sb::Jb::a):=(.k (.k (.k (.k (.k (.k (.k (.k h))))))))
theorem Tk {m:List tb}{s:Nat}{a0 oa a2 a3 a4 a5 Sb Jb b za sd Nb c d yh e:Value}{l a:List Value}(h:ie m l a):ie (No s m) (a0::oa::a2::a3::a4::a5::Sb::Jb::l) (b::za::sd::Nb::c::d::yh::e::a):=(.o (.o (.o (.o (.o (.o (.o (.o h))))))))
theorem Im {t:Nat→Value}{m:List tb}{a0 oa a2 a3 a4 a5 Sb Jb:Value}{l a:List Value}(h:mf t m l a):mf t (tl m) (a0::oa::a2::a3::a4::a5::Sb::Jb::l) (a0::oa::a2::a3::a4::a5::Sb::Jb::a):=(mk (mk (mk (mk (mk (mk (mk (mk h))))))))
theorem Aq {t:Nat→Value}{m:List tb}{s:Nat}{a0 oa a2 a3 a4 a5 Sb Jb:Value}{l a:List Value}(h:mf t m l a):mf t (No s m) (a0::oa::a2::a3::a4::a5::Sb::Jb::l) (t s::t (s+1)::t (s+2)::t (s+3)::t (s+4)::t (s+5)::t (s+6)::t (s+7)::a):=(fb (fb (fb (fb (fb (fb (fb (fb h))))))))
abbrev Hk (m:List tb):List tb:=.k::.k::.k::.k::.k::.k::.k::.k::.k::m
abbrev vp (s:Nat) (m:List tb):List tb:=.o s::.o (s+1)::.o (s+2)::.o (s+3)::.o (s+4)::.o (s+5)::.o (s+6)::.o (s+7)::.o (s+8)::m
theorem Tg {m:List tb}{a0 oa a2 a3 a4 a5 Sb Jb Pb:Value}{l a:List Value}(h:ie m l a):ie (Hk m) (a0::oa::a2::a3::a4::a5::Sb::Jb::Pb::l) (a0::oa::a2::a3::a4::a5::Sb::Jb::Pb::a):=(.k (.k (.k (.k (.k (.k (.k (.k (.k h)))))))))
theorem yj {m:List tb}{s:Nat}{a0 oa a2 a3 a4 a5 Sb Jb Pb b za sd Nb c d yh e ig:Value}{l a:List Value}(h:ie m l a):ie (vp s m) (a0::oa::a2::a3::a4::a5::Sb::Jb::Pb::l) (b::za::sd::Nb::c::d::yh::e::ig::a):=(.o (.o (.o (.o (.o (.o (.o (.o (.o h)))))))))
theorem bl {t:Nat→Value}{m:List tb}{a0 oa a2 a3 a4 a5 Sb Jb Pb:Value}{l a:List Value}(h:mf t m l a):mf t (Hk m) (a0::oa::a2::a3::a4::a5::Sb::Jb::Pb::l) (a0::oa::a2::a3::a4::a5::Sb::Jb::Pb::a):=(mk (mk (mk (mk (mk (mk (mk (mk (mk h)))))))))
theorem vr {t:Nat→Value}{m:List tb}{s:Nat}{a0 oa a2 a3 a4 a5 Sb Jb Pb:Value}{l a:List Value}(h:mf t m l a):mf t (vp s m) (a0::oa::a2::a3::a4::a5::Sb::Jb::Pb::l) (t s::t (s+1)::t (s+2)::t (s+3)::t (s+4)::t (s+5)::t (s+6)::t (s+7)::t (s+8)::a):=(fb (fb (fb (fb (fb (fb (fb (fb (fb h)))))))))
abbrev af (m:List tb):List tb:=.k::.k::.k::.k::.k::.k::.k::.k::.k::.k::m
abbrev Re (s:Nat) (m:List tb):List tb:=.o s::.o (s+1)::.o (s+2)::.o (s+3)::.o (s+4)::.o (s+5)::.o (s+6)::.o (s+7)::.o (s+8)::.o (s+9)::m
theorem cc {m:List tb}{a0 oa a2 a3 a4 a5 Sb Jb Pb a9:Value}{l a:List Value}(h:ie m l a):ie (af m) (a0::oa::a2::a3::a4::a5::Sb::Jb::Pb::a9::l) (a0::oa::a2::a3::a4::a5::Sb::Jb::Pb::a9::a):=(.k (.k (.k (.k (.k (.k (.k (.k (.k (.k h))))))))))
theorem Xb {m:List tb}{s:Nat}{a0 oa a2 a3 a4 a5 Sb Jb Pb a9 b za sd Nb c d yh e ig yf:Value}{l a:List Value}(h:ie m l a):ie (Re s m) (a0::oa::a2::a3::a4::a5::Sb::Jb::Pb::a9::l) (b::za::sd::Nb::c::d::yh::e::ig::yf::a):=(.o (.o (.o (.o (.o (.o (.o (.o (.o (.o h))))))))))
theorem kf {t:Nat→Value}{m:List tb}{a0 oa a2 a3 a4 a5 Sb Jb Pb a9:Value}{l a:List Value}(h:mf t m l a):mf t (af m) (a0::oa::a2::a3::a4::a5::Sb::Jb::Pb::a9::l) (a0::oa::a2::a3::a4::a5::Sb::Jb::Pb::a9::a):=(mk (mk (mk (mk (mk (mk (mk (mk (mk (mk h))))))))))
theorem Ve {t:Nat→Value}{m:List tb}{s:Nat}{a0 oa a2 a3 a4 a5 Sb Jb Pb a9:Value}{l a:List Value}(h:mf t m l a):mf t (Re s m) (a0::oa::a2::a3::a4::a5::Sb::Jb::Pb::a9::l) (t s::t (s+1)::t (s+2)::t (s+3)::t (s+4)::t (s+5)::t (s+6)::t (s+7)::t (s+8)::t (s+9)::a):=(fb (fb (fb (fb (fb (fb (fb (fb (fb (fb h))))))))))
abbrev Od (m:List tb):List tb:=.k::.k::.k::.k::.k::.k::.k::.k::.k::.k::.k::.k::.k::.k::.k::.k::.k::.k::.k::.k::m
abbrev Ni (s:Nat) (m:List tb):List tb:=.o s::.o (s+1)::.o (s+2)::.o (s+3)::.o (s+4)::.o (s+5)::.o (s+6)::.o (s+7)::.o (s+8)::.o (s+9)::.o (s+10)::.o (s+11)::.o (s+12)::.o (s+13)::.o (s+14)::.o (s+15)::.o (s+16)::.o (s+17)::.o (s+18)::.o (s+19)::m
theorem Ab {m:List tb}{a0 oa a2 a3 a4 a5 Sb Jb Pb a9 Kd Gc a12 a hc b c Mc d e:Value}{l f:List Value}(h:ie m l f):ie (Od m) (a0::oa::a2::a3::a4::a5::Sb::Jb::Pb::a9::Kd::Gc::a12::a::hc::b::c::Mc::d::e::l) (a0::oa::a2::a3::a4::a5::Sb::Jb::Pb::a9::Kd::Gc::a12::a::hc::b::c::Mc::d::e::f):=(.k (.k (.k (.k (.k (.k (.k (.k (.k (.k (.k (.k (.k (.k (.k (.k (.k (.k (.k (.k h))))))))))))))))))))
theorem Xe {m:List tb}{s:Nat}{a0 oa a2 a3 a4 a5 Sb Jb Pb a9 Kd Gc a12 b hc c d Mc e f g za sd Nb i j yh k ig yf n p vd q r t u v w x:Value}{l a:List Value}(h:ie m l a):ie (Ni s m) (a0::oa::a2::a3::a4::a5::Sb::Jb::Pb::a9::Kd::Gc::a12::b::hc::c::d::Mc::e::f::l) (g::za::sd::Nb::i::j::yh::k::ig::yf::n::p::vd::q::r::t::u::v::w::x::a):=(.o (.o (.o (.o (.o (.o (.o (.o (.o (.o (.o (.o (.o (.o (.o (.o (.o (.o (.o (.o h))))))))))))))))))))
theorem Zd {t:Nat→Value}{m:List tb}{a0 oa a2 a3 a4 a5 Sb Jb Pb a9 Kd Gc a12 a hc b c Mc d e:Value}{l f:List Value}(h:mf t m l f):mf t (Od m) (a0::oa::a2::a3::a4::a5::Sb::Jb::Pb::a9::Kd::Gc::a12::a::hc::b::c::Mc::d::e::l) (a0::oa::a2::a3::a4::a5::Sb::Jb::Pb::a9::Kd::Gc::a12::a::hc::b::c::Mc::d::e::f):=(mk (mk (mk (mk (mk (mk (mk (mk (mk (mk (mk (mk (mk (mk (mk (mk (mk (mk (mk (mk h))))))))))))))))))))
theorem mj {t:Nat→Value}{m:List tb}{s:Nat}{a0 oa a2 a3 a4 a5 Sb Jb Pb a9 Kd Gc a12 b hc c d Mc e f:Value}{l a:List Value}(h:mf t m l a):mf t (Ni s m) (a0::oa::a2::a3::a4::a5::Sb::Jb::Pb::a9::Kd::Gc::a12::b::hc::c::d::Mc::e::f::l) (t s::t (s+1)::t (s+2)::t (s+3)::t (s+4)::t (s+5)::t (s+6)::t (s+7)::t (s+8)::t (s+9)::t (s+10)::t (s+11)::t (s+12)::t (s+13)::t (s+14)::t (s+15)::t (s+16)::t (s+17)::t (s+18)::t (s+19)::a):=(fb (fb (fb (fb (fb (fb (fb (fb (fb (fb (fb (fb (fb (fb (fb (fb (fb (fb (fb (fb h))))))))))))))))))))
abbrev pg (m:List tb):List tb:=.k::.k::.k::.k::.k::.k::.k::.k::.k::.k::.k::.k::.k::.k::.k::.k::.k::.k::.k::.k::.k::.k::.k::.k::.k::.k::.k::.k::.k::.k::.k::.k::.k::.k::.k::.k::.k::.k::.k::.k::.k::.k::.k::.k::.k::.k::.k::.k::.k::.k::m
abbrev Bm (s:Nat) (m:List tb):List tb:=.o s::.o (s+1)::.o (s+2)::.o (s+3)::.o (s+4)::.o (s+5)::.o (s+6)::.o (s+7)::.o (s+8)::.o (s+9)::.o (s+10)::.o (s+11)::.o (s+12)::.o (s+13)::.o (s+14)::.o (s+15)::.o (s+16)::.o (s+17)::.o (s+18)::.o (s+19)::.o (s+20)::.o (s+21)::.o (s+22)::.o (s+23)::.o (s+24)::.o (s+25)::.o (s+26)::.o (s+27)::.o (s+28)::.o (s+29)::.o (s+30)::.o (s+31)::.o (s+32)::.o (s+33)::.o (s+34)::.o (s+35)::.o (s+36)::.o (s+37)::.o (s+38)::.o (s+39)::.o (s+40)::.o (s+41)::.o (s+42)::.o (s+43)::.o (s+44)::.o (s+45)::.o (s+46)::.o (s+47)::.o (s+48)::.o (s+49)::m
theorem od {m:List tb}{a0 oa a2 a3 a4 a5 Sb Jb Pb a9 Kd Gc a12 a hc b c Mc d e a20 a21 a22 a23 a24 a25 a26 f a28 g i a31 j n o p q a37 r s a40 t u v w x a46 y z a49:Value}{l A:List Value}(h:ie m l A):ie (pg m) (a0::oa::a2::a3::a4::a5::Sb::Jb::Pb::a9::Kd::Gc::a12::a::hc::b::c::Mc::d::e::a20::a21::a22::a23::a24::a25::a26::f::a28::g::i::a31::j::n::o::p::q::a37::r::s::a40::t::u::v::w::x::a46::y::z::a49::l) (a0::oa::a2::a3::a4::a5::Sb::Jb::Pb::a9::Kd::Gc::a12::a::hc::b::c::Mc::d::e::a20::a21::a22::a23::a24::a25::a26::f::a28::g::i::a31::j::n::o::p::q::a37::r::s::a40::t::u::v::w::x::a46::y::z::a49::A):=(.k (.k (.k (.k (.k (.k (.k (.k (.k (.k (.k (.k (.k (.k (.k (.k (.k (.k (.k (.k (.k (.k (.k (.k (.k (.k (.k (.k (.k (.k (.k (.k (.k (.k (.k (.k (.k (.k (.k (.k (.k (.k (.k (.k (.k (.k (.k (.k (.k (.k h))))))))))))))))))))))))))))))))))))))))))))))))))
theorem wh {m:List tb}{s:Nat}{a0 oa a2 a3 a4 a5 Sb Jb Pb a9 Kd Gc a12 b hc c d Mc e f a20 a21 a22 a23 a24 a25 a26 g a28 i j a31 k n p q r a37 t u a40 v w x y z a46 A B a49 C za sd Nb D E yh F ig yf G H vd K L M N O P Q R S T U V W X Y Z bb Gb gc lc rc fd id md nd rd wd Fd Id be ce ge he le ne Ne of:Value}{l a:List Value}(h:ie m l a):ie (Bm s m) (a0::oa::a2::a3::a4::a5::Sb::Jb::Pb::a9::Kd::Gc::a12::b::hc::c::d::Mc::e::f::a20::a21::a22::a23::a24::a25::a26::g::a28::i::j::a31::k::n::p::q::r::a37::t::u::a40::v::w::x::y::z::a46::A::B::a49::l) (C::za::sd::Nb::D::E::yh::F::ig::yf::G::H::vd::K::L::M::N::O::P::Q::R::S::T::U::V::W::X::Y::Z::bb::Gb::gc::lc::rc::fd::id::md::nd::rd::wd::Fd::Id::be::ce::ge::he::le::ne::Ne::of::a):=(.o (.o (.o (.o (.o (.o (.o (.o (.o (.o (.o (.o (.o (.o (.o (.o (.o (.o (.o (.o (.o (.o (.o (.o (.o (.o (.o (.o (.o (.o (.o (.o (.o (.o (.o (.o (.o (.o (.o (.o (.o (.o (.o (.o (.o (.o (.o (.o (.o (.o h))))))))))))))))))))))))))))))))))))))))))))))))))
theorem xg {t:Nat→Value}{m:List tb}{a0 oa a2 a3 a4 a5 Sb Jb Pb a9 Kd Gc a12 a hc b c Mc d e a20 a21 a22 a23 a24 a25 a26 f a28 g i a31 j k n o p a37 q r a40 s u v w x a46 y z a49:Value}{l A:List Value}(h:mf t m l A):mf t (pg m) (a0::oa::a2::a3::a4::a5::Sb::Jb::Pb::a9::Kd::Gc::a12::a::hc::b::c::Mc::d::e::a20::a21::a22::a23::a24::a25::a26::f::a28::g::i::a31::j::k::n::o::p::a37::q::r::a40::s::u::v::w::x::a46::y::z::a49::l) (a0::oa::a2::a3::a4::a5::Sb::Jb::Pb::a9::Kd::Gc::a12::a::hc::b::c::Mc::d::e::a20::a21::a22::a23::a24::a25::a26::f::a28::g::i::a31::j::k::n::o::p::a37::q::r::a40::s::u::v::w::x::a46::y::z::a49::A):=(mk (mk (mk (mk (mk (mk (mk (mk (mk (mk (mk (mk (mk (mk (mk (mk (mk (mk (mk (mk (mk (mk (mk (mk (mk (mk (mk (mk (mk (mk (mk (mk (mk (mk (mk (mk (mk (mk (mk (mk (mk (mk (mk (mk (mk (mk (mk (mk (mk (mk h))))))))))))))))))))))))))))))))))))))))))))))))))
theorem Qn {t:Nat→Value}{m:List tb}{s:Nat}{a0 oa a2 a3 a4 a5 Sb Jb Pb a9 Kd Gc a12 b hc c d Mc e f a20 a21 a22 a23 a24 a25 a26 g a28 i j a31 k n o p q a37 r u a40 v w x y z a46 A B a49:Value}{l a:List Value}(h:mf t m l a):mf t (Bm s m) (a0::oa::a2::a3::a4::a5::Sb::Jb::Pb::a9::Kd::Gc::a12::b::hc::c::d::Mc::e::f::a20::a21::a22::a23::a24::a25::a26::g::a28::i::j::a31::k::n::o::p::q::a37::r::u::a40::v::w::x::y::z::a46::A::B::a49::l) (t s::t (s+1)::t (s+2)::t (s+3)::t (s+4)::t (s+5)::t (s+6)::t (s+7)::t (s+8)::t (s+9)::t (s+10)::t (s+11)::t (s+12)::t (s+13)::t (s+14)::t (s+15)::t (s+16)::t (s+17)::t (s+18)::t (s+19)::t (s+20)::t (s+21)::t (s+22)::t (s+23)::t (s+24)::t (s+25)::t (s+26)::t (s+27)::t (s+28)::t (s+29)::t (s+30)::t (s+31)::t (s+32)::t (s+33)::t (s+34)::t (s+35)::t (s+36)::t (s+37)::t (s+38)::t (s+39)::t (s+40)::t (s+41)::t (s+42)::t (s+43)::t (s+44)::t (s+45)::t (s+46)::t (s+47)::t (s+48)::t (s+49)::a):=(fb (fb (fb (fb (fb (fb (fb (fb (fb (fb (fb (fb (fb (fb (fb (fb (fb (fb (fb (fb (fb (fb (fb (fb (fb (fb (fb (fb (fb (fb (fb (fb (fb (fb (fb (fb (fb (fb (fb (fb (fb (fb (fb (fb (fb (fb (fb (fb (fb (fb h))))))))))))))))))))))))))))))))))))))))))))))))))
theorem cb {m:List tb}{v a:Value}{l b:List Value}(h:ie m l b):ie (.i v::m) (a::l) (v::b):=.i h
theorem Oa {l:List Value}:ie [] l l:=.z
end Go.Rb
namespace Go.Rb
open Go.RowKit
section
variable {P:Program}{Q:Exit→Act→World→Prop}{ops:Array Oper}{fr Ga:List Value}{ds:List Deferred}{w:World}
theorem Dz (ops:Array Oper) (fr:List Value) (ds:List Deferred) (j:Nat):yielded ops (F fr ds).tmps j=match (ops[j]?).bind (·.dst) with | some s=>(match (F fr ds).eval (.tmp s) with | .bool b=>some b | _=>none) | none=>none:=by
 unfold yielded;cases h:(ops[j]?).bind (·.dst) with
 | none=>simp
 | some s =>
  simp only [Option.bind_some,F,Act.eval];cases a:(⟨fr⟩:Array Value)[s]? with
  | none =>
   have:(⟨fr⟩:Array Value).getD s undef=undef:=by simp [Array.getD_eq_getD_getElem?,a]
   first
    | (simp [a,undef]; done)
    | (rw [this]; simp [undef])
  | some v =>
   have:(⟨fr⟩:Array Value).getD s undef=v:=by simp [Array.getD_eq_getD_getElem?,a]
   first
    | (simp [a]; done)
    | (rw [this]; cases v <;> rfl)
theorem wanted_put {o p:Oper}{fr:List Value}{ds ds':List Deferred}{g:List Value→List Value}(g3:∀ (y:Operand),(∀ e,p.dst=some e→Ht y≠some e)→(F (g fr) ds).eval y=(F fr ds).eval y) (c:∀ e,p.dst=some e→(reads ops o).contains e=false) :
  Region.wanted o (yielded ops (F (g fr) ds').tmps)=Region.wanted o (yielded ops (F fr ds').tmps):=by
 have nb:(F (g fr) ds').tmps=(F (g fr) ds).tmps:=rfl;have qa:(F fr ds').tmps=(F fr ds).tmps:=rfl;rw [nb,qa];unfold Region.wanted;cases d:o.guard with
 | none=>rfl
 | some f =>
  obtain ⟨j,b⟩:=f;simp only;have:yielded ops (F (g fr) ds).tmps j=yielded ops (F fr ds).tmps j:=by
   rw [Dz,Dz];cases h:(ops[j]?).bind (·.dst) with
   | none=>rfl
   | some s =>
    simp only;rw [g3 (.tmp s) fun e he a=>by
     simp [Ht] at a;subst a;have:=c s he;unfold reads at this;rw [d] at this;simp [h] at this]
  first
   | rw [this]
   | simp [this]
theorem TD {o:Oper}{j d:Nat}{b Ic:Bool}(a:o.guard=some (j,b)) (c:(ops[j]?).bind (·.dst)=some d) (ia:nc fr d (.bool Ic)):Region.wanted o (yielded ops (F fr ds).tmps)=(Ic == b):=by
 unfold Region.wanted;rw [a];simp only;have:yielded ops (F fr ds).tmps j=some Ic:=by
  rw [Dz,c];simp only;rw [aa ia ds]
 rw [this];cases b<;>cases Ic<;>rfl
theorem Si {o:Oper}(a:o.guard=none):Region.wanted o (yielded ops (F fr ds).tmps)=true:=by simp [Region.wanted,a]
theorem zt {o:Oper}{j d:Nat}{b:Bool}(a:o.guard=some (j,b)) (c:(ops[j]?).bind (·.dst)=some d) (ia:nc fr d (.bool b)):Region.wanted o (yielded ops (F fr ds).tmps)=true :=
 (TD a c ia).trans (by cases b<;>rfl)
end
end Go.Rb
namespace Go.Rb
open Go.RowKit
section
variable {P:Program}{Q:Exit→Act→World→Prop}{ops:Array Oper}{fr Ga:List Value}{ds:List Deferred}{w:World}
def waits (ops:Array Oper) (R S:List Nat) (i:Nat):Bool:=S.all fun j=>j == i || S.any fun k=>(Pn ops j).contains k && R.contains k
theorem Jn.later {R d:List Nat}(h:Jn ops R d) (m:R.Nodup){i:Nat}{S:List Nat}(n:∀ j ∈ S,j=i∨∃ k ∈ S,k ∈ Pn ops j∧k ∈ R):∀ a c,d=a++i::c→i ∉ a→∀ j ∈ a,j ∉ S:=by
 induction h with
 | z=>intro a c h; simp at h
 | @s R d k p t r =>
  intro a c h o j b;cases a with
  | nil=>cases b
  | cons e a =>
   simp only [List.cons_append,List.cons.injEq] at h;obtain ⟨rfl,h⟩:=h;have he:k ∉ S:=fun hm=>by
    rcases n k hm with rfl | ⟨q,f,g,l⟩
    ·exact o (by simp)
    ·exact DC p g l
   rcases List.mem_cons.1 b with rfl | b
   ·exact he
   ·refine r (m.erase k) (fun j b=>?_) a c h (fun hm=>o (by simp [hm])) j b;rcases n j b with rfl | ⟨q,f,g,l⟩
    ·exact .inl rfl
    ·exact .inr ⟨q,f,g,(m.mem_erase_iff).2 ⟨fun e=>he (e ▸ f),l⟩⟩
end
end Go.Rb
namespace Go.Rb
open Go.RowKit
section
variable {P:Program}{Q:Exit→Act→World→Prop}{K:List Value→List Deferred→World→Prop}{fr Ga:List Value}{ds:List Deferred}{w:World}
variable {dst:Option Tmp}{ty:TypeId}{pos:String}{after:Array Edge}{g:Option (Nat×Bool)}
variable {S ld:Nat→Prop}{ca:World}{rs rs':List kb}{A:World→Prop}
variable {T:TypeId}{d:TypeDesc}{td:Bool}{yd:List Value}{n m:Nat}
inductive Yu (fr:List Value) (n:Nat):Nat→List (Nat×Operand)→List Value→Prop where
 | z {i:Nat}:Yu fr n i [] []
 | s {i:Nat} {x:Operand} {v:Value} {cs rest:List Value} {xs:List (Nat×Operand)} (a:ob fr x v) (b:v.cells=⟨cs⟩) (c:cs.length=n) (t:Yu fr n (i+1) xs rest):Yu fr n i ((i,x)::xs) (cs++rest)
theorem Yu.fill {i:Nat}{xs:List (Nat×Operand)}{cells:List Value}(h:Yu fr n i xs cells):∀ a:List Value,a.length=i*n+cells.length →
  Instr.fill (fun i=>some (i*n,n)) ⟨a⟩ (xs.map fun p=>(p.1,(F fr ds).eval p.2))=some ⟨a.take (i*n)++cells⟩:=by
 induction h with
 | z=>intro a b; simp at b; simp [Instr.fill,← b]
 | @s i x v cs rest xs f g c t j =>
  intro a b;simp only [List.length_append] at b;have d:(i+1)*n=i*n+n:=by rw [Nat.add_mul,Nat.one_mul]
  simp only [List.map_cons,Instr.fill,f ds,g];have nb:¬ (((⟨cs⟩:Array Value).size≠n || i*n+(⟨cs⟩:Array Value).size > (⟨a⟩:Array Value).size)=true):=by simp [c,b]
  rw [if_neg nb];have k:=px cs (i*n) 0 a (by omega);have qa:(⟨cs⟩:Array Value).zipIdx.toList=cs.zipIdx 0:=by simp
  have e:(⟨cs⟩:Array Value).zipIdx.foldl (fun (cs:Array Value) (p:Value×Nat)=>cs.setIfInBounds (i*n+p.2) p.1) ⟨a⟩=⟨a.take (i*n+0)++cs++a.drop (i*n+0+cs.length)⟩:=by
   rw [← Array.foldl_toList,qa];exact k
  first
   | rw [e]
   | (erw [e])
  rw [j _ (by simp [d,c,b];omega)];congr 2;rw [d,c,Nat.add_zero];have:(a.take (i*n)++cs).length=i*n+n:=by simp [c];omega
  rw [← this,List.take_left,List.append_assoc]
theorem aB {e:TypeId}{len:Nat}{xs:List (Nat×Operand)}{cells:List Value}(f:P.underlying T=some (.slice e)) (c:Nc P e td yd n m) (a:(decide (0<n) && decide (n≤1000) && decide (0<len) && decide (len≤1000))=true) (j:Yu fr n 0 xs cells) (k:cells.length=len*n) (l:Sep S ld ca w rs A)
  (h:∀ b w',w.heap.size≤b→Sep S ld ca w' (.ba b e cells::rs) A→Hh fr dst (.slice (some ⟨b,0,none⟩) len len) fun Ga=>K Ga ds w'):Td P (Oper.mk dst (.buildSlice T len ⟨xs⟩) ty pos after g) fr ds w K Q:=by
 obtain ⟨Ga,xa⟩:=vj fr dst (.slice (some ⟨w.heap.size,0,none⟩) len len);refine qi (v:=.slice (some ⟨w.heap.size,0,none⟩) len len) (w':=w.alloc (.cells ⟨cells⟩ e)) ?_ xa (h _ _ (Nat.le_refl _) (l.alloc rfl (heap_alloc_new w _)) Ga xa);obtain ⟨z,o,u⟩:=c.zero (w:=w);have q:=c.sizeOf (w:=w);simp only [Bool.and_eq_true,decide_eq_true_eq] at a;have hmul:len*n≤1000*1000:=Nat.mul_le_mul a.2 a.1.1.2;have r:¬ (len*n > 2 ^ 24):=by omega
 have s:¬ (len*n=0):=by
  have:=Nat.mul_pos a.1.2 a.1.1.1;omega
 have ia:((⟨xs⟩:Array (Nat×Operand)).map fun (i,x)=>(i,(F fr ds).eval x)).toList=xs.map fun p=>(p.1,(F fr ds).eval p.2):=by simp
 have d:=j.fill (ds:=ds) ((Array.range (len*n)).map (z.cells[· % z.cells.size]!)).toList (by simp [k]);simp only [execOp,Instr.buildSlice,Sem.run_bind,run_underlying f,Result.andThen_ok,q,if_neg r,if_neg s,o,Sem.run_pure,ia];have t:(⟨((Array.range (len*n)).map (z.cells[· % z.cells.size]!)).toList⟩:Array Value)=(Array.range (len*n)).map (z.cells[· % z.cells.size]!):=rfl;rw [t] at d;simp only [d];simp [newRow]
structure Ww (P:Program) (c:Code) (Q:Exit→Act→World→Prop) (n:Nat) (fr:List Value) (ds:List Deferred) (w:World):Prop where
 out:Code.rounds P c Q n (F fr ds) w
theorem JA {c:Code}(n:Nat) (h:Ww P c Q n fr ds w):Ie P (.loop c) Q fr ds w:=⟨wp_loop_rounds n h.out⟩
theorem qp {c:Code}{n:Nat}(h:Ie P c (Exit.then (fun a w=>∃ fr ds,a=F fr ds∧Ww P c Q n fr ds w) Q) fr ds w):Ww P c Q (n+1) fr ds w:=⟨by
 rw [rounds_succ];refine wp_mono h.out fun e a w b=>?_;cases e with
 | normal=>obtain ⟨fr,ds,rfl,h⟩:=b; exact h.out
 | exit id=>exact b
 | goto l=>exact b
 | ret=>exact b
 | panic d=>exact b
 | outgrown=>exact b⟩
theorem Ks {c:Code}{n:Nat}(h:Ww P c Q n fr ds w):Exit.then (fun a w=>∃ fr ds,a=F fr ds∧Ww P c Q n fr ds w) Q .normal (F fr ds) w:=⟨_,_,rfl,h⟩
theorem oE {f:Operand}{xs:List Operand}{tys:Array TypeId}{k:FuncId}{first cap vs:List Value}{R:Value→World→Prop}(b:Wb P k) (c:ob fr f (.func (.func k) ⟨first⟩ ⟨cap⟩)) (d:Em fr xs vs)
  (i:wc P k (first++vs++cap) w R) (h:∀ v w',R v w'→Hh fr dst v fun Ga=>K Ga ds w'):Td P (Oper.mk dst (.call { callee:=.value f,args:=⟨xs⟩,argTypes:=tys }) ty pos after g) fr ds w K Q:=by
 refine HA (args:=first++vs++cap) ?_ i h;have j:=c ds;have l:=d ds;have a:=b.out ⟨first++vs++cap⟩ w;have e:(⟨first⟩:Array Value)++(⟨vs⟩:Array Value)++(⟨cap⟩:Array Value)=⟨first++vs++cap⟩:=by
  apply Array.ext';simp
 simp only [List.append_assoc] at a e ⊢;simp [execOp,resolve,j,Deferred.ofValue,invoke,l];first
  | exact a
  | (simpa using a)
end
end Go.Rb
namespace Go.ec
open Go.Rb Go.RowKit
section
variable {P:Program}{Q:Exit→Act→World→Prop}{K:List Value→List Deferred→World→Prop}{fr Ga:List Value}{ds:List Deferred}{w:World}
variable {dst:Option Tmp}{ty:TypeId}{pos:String}{after:Array Edge}{g:Option (Nat×Bool)}
variable {ca:World}{rs rs':List kb}{μ J:M}
variable {T:TypeId}{d:TypeDesc}{td:Bool}{yd:List Value}{n m:Nat}
def okV (R:Value→World→Prop):Ending→World→Prop
 | .returned v,w=>R v w
 | _,_=>False
def Es (P:Program) (fn:Func) (R:Value→World→Prop):Exit→Act→World→Prop
 | .panic _,_,_=>False
 | e,a,w=>bodyPostD P fn (okV R) e a w
theorem ew {f:FuncId}{fn:Func}{c:Code}{args frm:List Value}{R:Value→World→Prop}(d:P.funcs[f]?=some fn) (g:fn.body=some c)
  (i:args++List.replicate (fn.ntmps - args.length) undef=frm) (h:Ie P c (Es P fn R) frm [] w):wc P f args w R:=by
 refine ⟨Calls.mono (calls_of_wp_defers (R:=okV R) d g ?_) fun e w he=>by cases e<;>exact he⟩;subst i;have qa:(⟨args⟩:Array Value)++Array.replicate (fn.ntmps - args.length) undef=⟨args++List.replicate (fn.ntmps - args.length) undef⟩:=by
  apply Array.ext';simp
 have h:=wp_mono h.out (Q':=bodyPostD P fn (okV R)) fun e a w b=>by
  cases e<;>first | exact b | exact (False.elim b)
 simpa [F,qa] using h
structure jy (P:Program) (f:FuncId) (args:List Value) (w:World) (R:Value→World→Prop):Prop where
 out:∀ u,CallsD P f ⟨args⟩ u w fun e a w'=>a=u∧okV R e w'
theorem pE {f:FuncId}{fn:Func}{c:Code}{args frm:List Value}{R:Value→World→Prop}(d:P.funcs[f]?=some fn) (g:fn.body=some c)
  (j:args++List.replicate (fn.ntmps - args.length) undef=frm) (h:Ie P c (nr P fn R) frm [] w):jy P f args w R:=by
 refine ⟨fun u=>callsD_of_wp d g ?_⟩;subst j;have qa:(⟨args⟩:Array Value)++Array.replicate (fn.ntmps - args.length) undef=⟨args++List.replicate (fn.ntmps - args.length) undef⟩:=by
  apply Array.ext';simp
 have h:=wp_mono h.out (Q':=bodyPost P fn (okV R)) fun e a w b=>by
  cases e with
  | normal=>exact b
  | ret=>exact b
  | panic k=>exact b
  | exit i=>exact b
  | goto l=>exact b
  | outgrown=>exact b
 simpa [F,qa] using h
theorem aw {f:Operand}{xs:List Operand}{tys:Array TypeId}{k:FuncId}{cap vs:List Value}(a:ob fr f (.func (.func k) #[] ⟨cap⟩)) (b:Em fr xs vs)
  (c:lf fr dst undef Ga) (h:K Ga (⟨.fn (.func k) ⟨cap⟩,⟨vs⟩⟩::ds) w):Td P (Oper.mk dst (.defer { callee:=.value f,args:=⟨xs⟩,argTypes:=tys }) ty pos after g) fr ds w K Q:=by
 constructor;intro l d;have e:=a ds;have i:=b ds;have j:(execOp (F fr ds).eval (Oper.mk dst (.defer { callee:=.value f,args:=⟨xs⟩,argTypes:=tys }) ty pos after g)).run P w=.ok (.defer ⟨.fn (.func k) ⟨cap⟩,⟨vs⟩⟩) w:=by
  simp [execOp,resolve,e,Deferred.ofValue,i]
 unfold Oper.wp;rw [j];have:=d _ _ _ h;rw [← c _] at this;simpa [Oper.upon,F,Act.put] using this
theorem Wy {fn:Func}{R a:Value→World→Prop}{k:FuncId}{cap vs:List Value}(b:Wb P k) (d:jy P k (vs++cap) w a) (h:∀ v w',a v w'→Es P fn R .ret (F fr ds) w') :
  Es P fn R .ret (F fr (⟨.fn (.func k) ⟨cap⟩,⟨vs⟩⟩::ds)) w:=by
 refine ⟨by simp,.func k,⟨cap⟩,k,⟨vs++cap⟩,rfl,?_,?_⟩
 ·have:=b.out ⟨vs++cap⟩ w;simp [invoke,this]
 ·refine (d.out .returning).mono fun e f w' he=>?_;obtain ⟨rfl,he⟩:=he;cases e with
  | returned v=>exact h v w' he
  | panicked c=>exact he.elim
  | outgrown=>exact he.elim
theorem cq {fn:Func}{R:Value→World→Prop}{a:List ResultVar}{vs:List Value}(b:fn.results=⟨a⟩) (c:Cb P fr w a vs) (h:R (Tt vs) w):Es P fn R .ret (F fr []) w :=
 ⟨_,CC b c,h⟩
def Ec (ms:List (Nat×List MapEntry×Nat)):List kb:=(ms.map fun m=>.map m.1 m.2.1 m.2.2).reverse
def fe (ms:List (Nat×List MapEntry×Nat)):List Value:=ms.map fun m=>.map (some m.1)
variable {κ β:Type}[DecidableEq κ] [tb κ] [Zh β]
def uf (μ:M):List (Nat×List MapEntry×Nat)→List (List (κ×β))→Prop
 | [],Ud=>Ud=[]
 | m::ms,Ud=>∃ x t,Ud=x::t∧ag μ m.2.1 m.2.2 x∧uf μ ms t
theorem uf.up (l:ga μ J):∀ {ms:List (Nat×List MapEntry×Nat)}{Ud:List (List (κ×β))},uf μ ms Ud→uf J ms Ud
 | [],Ud,h=>by rw [uf] at h ⊢; exact h
 | m::ms,Ud,h=>by
  rw [uf] at h ⊢;obtain ⟨x,t,a,b,c⟩:=h;exact ⟨x,t,a,b.up l,uf.up l c⟩
theorem uf.get:∀ {ms:List (Nat×List MapEntry×Nat)}{Ud:List (List (κ×β))}{i:Nat}{x:List (κ×β)},uf μ ms Ud→Ud[i]?=some x→∃ b es c,ms[i]?=some (b,es,c)∧ag μ es c x
 | [],Ud,i,x,h,a=>by rw [uf] at h; subst h; simp at a
 | m::ms,Ud,i,x,h,a=>by
  rw [uf] at h;obtain ⟨y,t,rfl,d,e⟩:=h;cases i with
  | zero=>simp at a; subst a; exact ⟨m.1,m.2.1,m.2.2,rfl,d⟩
  | succ i=>simp at a; simpa using uf.get e a
theorem uf.set:∀ {ms:List (Nat×List MapEntry×Nat)}{Ud:List (List (κ×β))}{i:Nat}{e:Nat×List MapEntry×Nat}{x:List (κ×β)},uf μ ms Ud→ag μ e.2.1 e.2.2 x→uf μ (ms.set i e) (Ud.set i x)
 | [],Ud,i,e,x,h,a=>by rw [uf] at h; subst h; simp [uf]
 | m::ms,Ud,i,e,x,h,a=>by
  rw [uf] at h;obtain ⟨y,t,rfl,c,b⟩:=h;cases i with
  | zero=>exact ⟨x,t,rfl,a,b⟩
  | succ i=>exact ⟨y,_,rfl,c,uf.set b a⟩
theorem uf.push:∀ {ms:List (Nat×List MapEntry×Nat)}{Ud:List (List (κ×β))}{e:Nat×List MapEntry×Nat}{x:List (κ×β)},uf μ ms Ud→ag μ e.2.1 e.2.2 x→uf μ (ms++[e]) (Ud++[x])
 | [],Ud,e,x,h,a=>by rw [uf] at h; subst h; exact ⟨x,[],rfl,a,rfl⟩
 | m::ms,Ud,e,x,h,a=>by
  rw [uf] at h;obtain ⟨y,t,rfl,b,c⟩:=h;exact ⟨y,_,rfl,b,uf.push c a⟩
theorem uf.take:∀ {ms:List (Nat×List MapEntry×Nat)}{Ud:List (List (κ×β))}(j:Nat),uf μ ms Ud→uf μ (ms.take j) (Ud.take j)
 | [],Ud,j,h=>by rw [uf] at h; subst h; simp [uf]
 | m::ms,Ud,j,h=>by
  rw [uf] at h;obtain ⟨y,t,rfl,a,b⟩:=h;cases j with
  | zero=>simp [uf]
  | succ j=>exact ⟨y,_,rfl,a,uf.take j b⟩
theorem AG (ms:List (Nat×List MapEntry×Nat)) (e:Nat×List MapEntry×Nat):Ec (ms++[e])=.map e.1 e.2.1 e.2.2::Ec ms:=by simp [Ec]
theorem PG {ms:List (Nat×List MapEntry×Nat)}{i b c c':Nat}{es a:List MapEntry}(h:ms[i]?=some (b,es,c)):fe (ms.set i (b,a,c'))=fe ms:=by
 unfold fe;refine List.ext_getElem? fun j=>?_;rw [List.getElem?_map,List.getElem?_map,List.getElem?_set];split
 ·rename_i d;subst d;have e:=(List.getElem?_eq_some_iff.1 h).1;rw [if_pos e,h];rfl
 ·rfl
theorem QG {ms:List (Nat×List MapEntry×Nat)}{i b c:Nat}{es:List MapEntry}(h:ms[i]?=some (b,es,c)):kb.map b es c ∈ Ec ms:=by
 unfold Ec;rw [List.mem_reverse,List.mem_map];exact ⟨(b,es,c),List.mem_of_getElem? h,rfl⟩
theorem _root_.Go.Rb.Sep.WM {pre:List kb}{ms:List (Nat×List MapEntry×Nat)}{i b c:Nat}{es:List MapEntry}(a:ha μ ca w (pre++(Ec ms++rs))) (h:ms[i]?=some (b,es,c)):w.heap[b]?=some (.map ⟨es⟩ c):=
 a.all (.map b es c) (by simp [QG h])
theorem Row.mapElem {v:Value}{ms:List (Nat×List MapEntry×Nat)}{Ud:List (List (κ×β))}{i:Int}{x:List (κ×β)}(h:Row w v T 1 Ud.length (fe ms)) (hm:uf μ ms Ud) (g:at_ Ud i=some x) :
  ∃ b o Mb es c,rv v 1 i b o∧(∀ w T,Row w v T 1 Ud.length (fe ms)→Nj w b o [.map (some Mb)])∧ms[i.toNat]?=some (Mb,es,c)∧ag μ es c x:=by
 obtain ⟨f,k,l⟩:=Ot g;obtain ⟨Mb,es,c,d,m⟩:=hm.get l;obtain ⟨b,o,q,rfl,r⟩:=h.Mt (by omega);refine ⟨b,o+i.toNat,Mb,es,c,⟨o,_,_,rfl,f,k,by simp⟩,fun s t n j u a=>?_,d,m⟩;obtain ⟨Ic,y,c',e,p⟩:=n.Mt (by omega);simp at e;obtain ⟨⟨rfl,rfl⟩,rfl⟩:=e;cases j with
 | succ j=>simp at a
 | zero =>
  simp at a;subst a;have:(fe ms)[i.toNat]?=some (.map (some Mb)):=by unfold fe;rw [List.getElem?_map,d];rfl
  exact p _ _ this
theorem qE {x y z:Operand}{nf aa:TypeId}{v:Value}{pre:List kb}{ms:List (Nat×List MapEntry×Nat)}{b c i:Nat}{es:List MapEntry}{kk:κ}{q:List (κ×β)}{xx:β}{Ud:List (List (κ×β))}(n:P.underlying T=some (.map nf aa)) (o:P.underlying nf=some (tb.xd (κ:=κ))) (p:ob fr x (.map (some b))) (r:ob fr y (tb.key kk)) (s:ob fr z v) (t:Zh.Hj μ v xx)
  (u:ha μ ca w (pre++(Ec ms++rs))) (d:ms[i]?=some (b,es,c)) (he:ag μ es c q) (hm:uf μ ms Ud)
  (xa:lf fr dst undef Ga) (h:∀ f w',uf μ f (Ud.set i (zd q kk xx))→fe ms=fe f→Ud.length=(Ud.set i (zd q kk xx)).length→ha μ ca w' (pre++(Ec f++rs))→K Ga ds w'):Td P (Oper.mk dst (.mapUpdate T x y z) ty pos after g) fr ds w K Q:=by
 have B:=(List.getElem?_eq_some_iff.1 d).1;have A:(pre++(Ec ms++rs))[pre.length+(ms.length - 1 - i)]?=some (.map b es c):=by
  rw [List.getElem?_append_right (by omega),Nat.add_sub_cancel_left,List.getElem?_append_left (by simp [Ec];omega)];unfold Ec;rw [List.getElem?_reverse (by simp;omega),List.length_map,show ms.length - 1 - (ms.length - 1 - i)=i by omega,List.getElem?_map,d];rfl
 refine VE n o p r (tb.nf kk) s u A he.kv.keys xa fun w' rs' k l=>h _ w' (hm.set (e:=(b,putAt es c (tb.key kk) v,Tj es c (tb.key kk))) (he.put kk t)) (PG d).symm (by simp) ?_;unfold uc at k;subst k;have e:(pre++(Ec ms++rs)).set (pre.length+(ms.length - 1 - i)) (.map b (putAt es c (tb.key kk) v) (Tj es c (tb.key kk)))=pre++(Ec (ms.set i (b,putAt es c (tb.key kk) v,Tj es c (tb.key kk)))++rs):=by
  rw [List.set_append_right _ _ (by omega),Nat.add_sub_cancel_left,List.set_append_left _ _ (by simp [Ec];omega)];congr 2;unfold Ec;rw [List.map_set];refine List.ext_getElem? fun j=>?_;rcases Nat.lt_or_ge j ms.length with a | a
  ·rw [List.getElem?_set,List.getElem?_reverse (by simpa using a),List.getElem?_reverse (by simpa using a)];simp only [List.length_map,List.length_reverse,List.length_set,List.getElem?_set];by_cases m:ms.length - 1 - i=j
   ·rw [if_pos m,if_pos (by omega),if_pos (by omega),if_pos (by omega)]
   ·rw [if_neg m,if_neg (by omega)]
  ·rw [List.getElem?_eq_none (by simpa using a),List.getElem?_eq_none (by simpa using a)]
 rw [e] at l;exact l
theorem lL {t:TypeId}{s x:Operand}{v:Value}{bytes k b Mb c:Nat}{ms:List (Nat×List MapEntry×Nat)}{Ud d:List (List (κ×β))}(e:P.underlying t=some (.slice T)) (f:Nc P T td yd 1 bytes) (i:yd.length=1)
  (j:ob fr s v) (l:ob fr x (.slice (some ⟨b,0,none⟩) 1 c)) (m:ha μ ca w rs) (ia:nc rs k (.row v T 1 Ud.length (fe ms))) (n:Nj w b 0 [.map (some Mb)]) (o:app Ud [([]:List (κ×β))]=some d) (p:bytes≤4096)
  (h:∀ a w' rs',uc rs k (.row a T 1 d.length (fe ms++[.map (some Mb)])) rs'→ha μ ca w' rs'→Hh fr dst a fun Ga=>K Ga ds w') :
  Td P (Oper.mk dst (.call { callee:=.builtin .append,args:=#[s,x],argTypes:=#[t,t] }) ty pos after g) fr ds w K Q:=by
 obtain ⟨q,r⟩:=IA o;refine Xx e f (by simp [i]) j l m ia n rfl rfl ⟨r,p⟩ fun a w' rs' u=>h a w' rs' (by rw [q];exact u)
theorem _root_.Go.Rb.Sep.XM {pre:List kb}{ms:List (Nat×List MapEntry×Nat)}{b c:Nat}{es:List MapEntry}(a:ha μ ca w (pre++(.map b es c::(Ec ms++rs)))):ha μ ca w (pre++(Ec (ms++[(b,es,c)])++rs)):=by
 rw [AG];exact a
theorem BG (ms:List (Nat×List MapEntry×Nat)) (b c:Nat) (es:List MapEntry):fe ms++[.map (some b)]=fe (ms++[(b,es,c)]):=by simp [fe]
theorem _root_.Go.Rb.Sep.XF {pre:List kb}{ms:List (Nat×List MapEntry×Nat)}{j:Nat}(a:ha μ ca w (pre++(Ec ms++rs))):ha μ ca w (pre++(Ec (ms.take j)++rs)):=by
 have c:(pre++(Ec (ms.take j)++rs)).Sublist (pre++(Ec ms++rs)):=by
  refine (List.Sublist.refl pre).append (List.Sublist.append ?_ (List.Sublist.refl rs));unfold Ec;exact ((List.take_sublist j ms).map _).reverse
 refine ⟨a.keeps,fun r e=>a.all r (c.subset e),(c.filterMap _).nodup a.ej,fun b f=>a.new b ((c.filterMap _).subset f),?_⟩;refine a.Yj.mono fun k _ d=>⟨d.1,fun hm=>d.2 ((c.filterMap kb.block).subset hm)⟩
theorem Row.YM {v:Value}{sz:Nat}{xs:List Value}{j:Int}(h:Row w v T sz n xs) (d:0≤j) (p:j≤n) :
  ∃ b,sv v sz none (some j) b∧b.ownBlock=v.ownBlock∧∀ w T,Row w v T sz n xs→Row w b T sz j.toNat (xs.take (j.toNat*sz)):=by
 have ia:∀ w T,Row w v T sz n xs→(xs.take (j.toNat*sz)).length=j.toNat*sz:=fun w T h=>by
  rw [List.length_take,h.1];exact Nat.min_eq_left (Nat.mul_le_mul_right _ (by omega))
 rcases h.2 with ⟨rfl,rfl⟩ | ⟨g,o,cap,cur,rfl,q,r,s,t,u⟩
 ·have:j=0:=by omega
  subst this;exact ⟨.slice none 0 0,⟨none,0,0,rfl,by simp,by simp,by simp,by simp⟩,rfl,fun w T h=>⟨ia w T h,.inl ⟨rfl,rfl⟩⟩⟩
 ·refine ⟨.slice (some ⟨g,o,none⟩) j.toNat cap,⟨_,_,_,rfl,by simp,by simpa using d,by simp;omega,?_⟩,rfl,fun e f c=>⟨ia e f c,.inr ?_⟩⟩
  ·simp [Ak]
  ·rcases c.2 with ⟨a,_⟩ | ⟨x,y,cap',i,a,k,k1,l,m,Ue⟩
   ·simp at a
   ·simp at a;obtain ⟨⟨rfl,rfl⟩,rfl⟩:=a;exact ⟨g,o,cap,i,rfl,k,by omega,l,m,by rw [← Ue,List.take_take,Nat.min_eq_left (Nat.mul_le_mul_right _ (by omega))]⟩
theorem Row.cutFrom {v:Value}{sz:Nat}{xs:List Value}{i:Int}(h:Row w v T sz n xs) (j:0≤i) (k:i≤n) :
  ∃ b,sv v sz (some i) none b∧b.ownBlock=v.ownBlock∧∀ w T,Row w v T sz n xs→Row w b T sz (n - i.toNat) (xs.drop (i.toNat*sz)):=by
 have ia:∀ w T,Row w v T sz n xs→(xs.drop (i.toNat*sz)).length=(n - i.toNat)*sz:=fun w T h=>by
  rw [List.length_drop,h.1,Nat.sub_mul]
 rcases h.2 with ⟨rfl,rfl⟩ | ⟨g,o,cap,cur,rfl,p,q,r,s,t⟩
 ·have:i=0:=by omega
  subst this;exact ⟨.slice none 0 0,⟨none,0,0,rfl,by simp,by simp,by simp,by simp⟩,rfl,fun w T h=>⟨ia w T h,.inl ⟨rfl,by simp⟩⟩⟩
 ·refine ⟨_,⟨_,_,_,rfl,by simpa using j,by simpa using k,by simp;omega,rfl⟩,by simp only [Option.getD_some];split<;>simp [Value.ownBlock,Ak],fun l m c=>⟨ia l m c,.inr ?_⟩⟩;rcases c.2 with ⟨a,_⟩ | ⟨u,x,cap',d,a,e,k1,y,z,Ue⟩
  ·simp at a
  ·simp at a;obtain ⟨⟨rfl,rfl⟩,rfl⟩:=a;have hmul:i.toNat*sz+(cap - i.toNat)*sz=cap*sz:=by rw [← Nat.add_mul];congr 1;omega
   by_cases f:cap=i.toNat
   ·refine ⟨g,o,cap - i.toNat,d,by simp [f],e,by omega,by omega,by omega,?_⟩;rw [show n - i.toNat=0 by omega,Nat.zero_mul,List.take_zero,List.drop_eq_nil_of_le (by rw [c.1];exact Nat.mul_le_mul_right _ (by omega))]
   ·refine ⟨g,o+i.toNat*sz,cap - i.toNat,d,by simp [f,Ak],e,by omega,by omega,by omega,?_⟩;rw [← Ue,← List.drop_drop,List.drop_take,Nat.sub_mul]
theorem Na.drop {α:Type}[ab α]:∀ {l:List α}{cells:List Value}(i:Nat),Na μ cells l→Na μ (cells.drop (i*ab.sz α)) (l.drop i)
 | [],cells,i,h=>by rw [Na] at h; subst h; simp [Na]
 | x::l,cells,0,h=>by simpa using h
 | x::l,cells,i+1,h=>by
  rw [Na] at h;obtain ⟨cs,t,rfl,a,b⟩:=h;have e:(i+1)*ab.sz α=cs.length+i*ab.sz α:=by rw [Nat.add_mul,ab.sj a];omega
  rw [e,← List.drop_drop];simpa using Na.drop i b
theorem Row.HN {α:Type}[ab α]{v:Value}{cells:List Value}{l b:List α}{i:Int}(h:Row w v T (ab.sz α) l.length cells) (hm:Na μ cells l) (g:cut l i l.length=some b) :
  ∃ a c,sv v (ab.sz α) (some i) none a∧a.ownBlock=v.ownBlock∧(∀ w T,Row w v T (ab.sz α) l.length cells→Row w a T (ab.sz α) b.length c)∧Na μ c b:=by
 obtain ⟨⟨d,e,m⟩,rfl⟩:=cw g;obtain ⟨a,qa,f,j⟩:=Row.cutFrom h d e;refine ⟨a,cells.drop (i.toNat*ab.sz α),qa,f,fun w T k=>?_,by simpa using hm.drop i.toNat⟩;have:=j w T k;simpa using this
theorem Row.IN {v:Value}{ms:List (Nat×List MapEntry×Nat)}{Ud b:List (List (κ×β))}{j:Int}(h:Row w v T 1 Ud.length (fe ms)) (hm:uf μ ms Ud) (g:cut Ud 0 j=some b) :
  ∃ a c,sv v 1 none (some j) a∧a.ownBlock=v.ownBlock∧(∀ w T,Row w v T 1 Ud.length (fe ms)→Row w a T 1 b.length (fe c))∧uf μ c b∧ms.take j.toNat=c:=by
 obtain ⟨⟨l,d,e⟩,rfl⟩:=cw g;obtain ⟨a,qa,f,i⟩:=Row.YM h d e;refine ⟨a,ms.take j.toNat,qa,f,fun w T k=>?_,by simpa using hm.take j.toNat,rfl⟩;have:=i w T k;have el:((Ud.take j.toNat).drop (0:Int).toNat).length=j.toNat:=by simp;omega
 rw [el];have Pa:fe (ms.take j.toNat)=(fe ms).take (j.toNat*1):=by simp [fe]
 rw [Pa];exact this
theorem _root_.Go.Rb.Sep.perm {S ld:Nat→Prop}{A:World→Prop}(h:Sep S ld ca w rs A) (a:rs.Perm rs'):Sep S ld ca w rs' A where
 keeps:=h.keeps
 all r d:=h.all r (a.mem_iff.2 d)
 ej:=(a.filterMap _).nodup_iff.1 h.ej
 new b e:=h.new b ((a.filterMap _).mem_iff.2 e)
 Yj:=h.Yj.mono fun k _ c=>⟨c.1,fun hm=>c.2 ((a.filterMap kb.block).mem_iff.2 hm)⟩
theorem _root_.Go.Rb.Sep.sh {a p M R:List kb}(h:ha μ ca w (a++(p++(M++R)))):ha μ ca w (a++(M++(p++R))):=
 h.perm (List.Perm.append_left a (by
  rw [← List.append_assoc,← List.append_assoc];exact List.Perm.append_right R List.perm_append_comm))
theorem _root_.Go.Rb.Sep.GF {k:Nat}{v c:Value}{sz e:Nat}{xs f:List Value}{S ld:Nat→Prop}{A:World→Prop}(a:Sep S ld ca w rs A) (ia:nc rs k (.row v T sz n xs)) (l:c.ownBlock=v.ownBlock) (m:∀ w T,Row w v T sz n xs→Row w c T sz e f) (g:uc rs k (.row c T sz e f) rs'):Sep S ld ca w rs' A:=by
 have h:Row w v T sz n xs:=a.get ia;cases o:v.ownBlock with
 | some b=>exact a.put (b:=b) (r:=.row v T sz n xs) (r':=.row c T sz e f) ia o (l.trans o) g (m _ _ h) (bj.refl _)
 | none =>
  unfold uc at g;subst g;have j:=YC (r':=.row c T sz e f) ia (show c.ownBlock=v.ownBlock from l);refine ⟨a.keeps,fun r p=>?_,by rw [j];exact a.ej,by rw [j];exact a.new,by rw [j];exact a.Yj⟩;obtain ⟨i,d⟩:=List.mem_iff_getElem?.1 p;rw [List.getElem?_set] at d;split at d
  ·split at d
   ·cases d;exact m _ _ h
   ·cases d
  ·exact a.all r (List.mem_of_getElem? d)
end
end Go.ec
namespace Go.ec
open Go.Rb Go.RowKit
theorem Vc {P : Program} {f : FuncId} {fn : Func} (a : P.funcs[f]? = some fn) (b : fn.body.isSome = true := by rfl) (c : (fn.name == "runtime.NumGoroutine") = false := by kernel_rfl) : Wb P f := PJ a b c
theorem Ze {P : Program}{T : TypeId}{d : TypeDesc}{td : Bool}{z : Value}{yd : List Value}{n m : Nat}(hu : P.underlying T = some d) (a : Vy d = td := by rfl) (h : (P.info? T).map (fun i => (i.zero, i.size, i.bytes)) = some (some z, n, m):= by kernel_rfl) (b : z.cells = ⟨yd⟩ := by rfl) : Nc P T td yd n m := RM hu a h b
end Go.ec
namespace Go.ec
open Go.Rb Go.RowKit
theorem Ut {v:Value}{l:List Value}(h:Kg v=true) (k:l.all Kg=true):(v::l).all Kg=true:=by simp [h,k]
theorem YF:([]:List Value).all Kg=true:=rfl
section
variable {P:Program}{Q:Exit→Act→World→Prop}{K:List Value→List Deferred→World→Prop}{fr Ga:List Value}{ds:List Deferred}{w:World}
variable {dst:Option Tmp}{ty:TypeId}{pos:String}{after:Array Edge}{g:Option (Nat×Bool)}
variable {ca:World}{rs rs':List kb}{μ J:M}
variable {T:TypeId}{d:TypeDesc}{td:Bool}{yd:List Value}{n m:Nat}
class qO (α β:Type) [ab α] [ab β] where
 code:α→List β
 set:α→List β→α
 xa:M→List Value→α→Prop
 up:∀ {μ J:M}{l:List Value}{x:α},ga μ J→xa μ l x→xa J l x
 sj:∀ {μ:M}{l:List Value}{x:α},xa μ l x→l.length+1=ab.sz α
 wr:∀ {μ:M}{l:List Value}{x:α}{ys:List β}{a:Option Addr}{c:Nat},xa μ l x→Ja μ a c ys→ab.cs μ (l++[.slice a ys.length c]) (set x ys)
 st:∀ {μ:M}{l:List Value}{x:α}{ys:List β},xa μ l x→xa μ l (set x ys)
 gd:∀ {x:α},set x (code x)=x
 cs:∀ {x:α}{ys:List β},code (set x ys)=ys
variable {α β:Type}[ab α] [ab β] [qO α β]
end
end Go.ec
namespace Go.Rb
open Go.RowKit
section
variable {P:Program}{Q:Exit→Act→World→Prop}{ops:Array Oper}{fr Ga:List Value}{ds:List Deferred}{w:World}
end
end Go.Rb
namespace Go.Rb
open Go.RowKit
section
variable {P:Program}{Q:Exit→Act→World→Prop}{ops:Array Oper}{fr Ga:List Value}{ds:List Deferred}{w:World}
abbrev Mon:=List Nat×(World→Prop)
def Ai (i:Nat) (zb:List Mon):List Mon:=zb.filter fun m=>!m.1.contains i
def Ba:List Mon→World→Prop
 | [],_=>True
 | m::l,w=>m.2 w∧Ba l w
theorem Ba.mem {zb:List Mon}{w:World}:Ba zb w ↔ ∀ m ∈ zb,m.2 w:=by
 induction zb with
 | nil=>simp [Ba]
 | cons m l a=>simp [Ba,a]
theorem Ba.sub {zb Ns':List Mon}(h:Ba zb w) (a:∀ m ∈ Ns',m ∈ zb):Ba Ns' w:=Ba.mem.2 fun m hm=>Ba.mem.1 h m (a m hm)
theorem ky {i:Nat}{zb:List Mon}:∀ m ∈ Ai i zb,m ∈ zb:=fun m hm=>(List.mem_filter.1 hm).1
theorem Zx {i:Nat}{zb Ns':List Mon}(h:∀ m ∈ Ns',m ∈ zb):∀ m ∈ Ai i Ns',m ∈ Ai i zb:=fun m hm=>List.mem_filter.2 ⟨h m (List.mem_filter.1 hm).1,(List.mem_filter.1 hm).2⟩
def Bh (P:Program) (ops:Array Oper) (Q:Exit→Act→World→Prop):List Mon→List Nat→Act→World→Prop
 | _,[],a,w=>Q .normal a w
 | zb,i::rest,a,w =>
  match ops[i]? with
  | none=>Bh P ops Q (Ai i zb) rest a w
  | some o =>
   if Region.wanted o (yielded ops a.tmps) then o.wp P a w (fun a w=>Ba (Ai i zb) w∧Bh P ops Q (Ai i zb) rest a w) Q∨(o.asks P a w∧LetsOut Q)
   else Bh P ops Q (Ai i zb) rest (a.put o.dst undef) w
theorem bB {o:Oper}{a:Act}{K c:Act→World→Prop}(h:o.wp P a w K Q) (b:∀ a w,K a w→c a w):o.wp P a w c Q:=by
 unfold Oper.wp at h ⊢;cases d:(execOp a.eval o).run P w with
 | halt e w'=>rw [d] at h; cases e <;> exact h
 | ok r w' =>
  rw [d] at h;cases r with
  | value x=>exact b _ _ h
  | skip=>exact b _ _ h
  | defer i=>exact b _ _ h
  | enter f args =>
   rw [Oper.upon_enter] at h ⊢;refine Calls.mono h fun e g he=>?_;cases e with
   | returned x=>exact b _ _ he
   | panicked j=>exact he
   | outgrown=>exact he
  | row r args =>
   rw [Oper.upon_row] at h ⊢;exact Rows.mono h fun x g he=>b _ _ he
  | _=>exact h
theorem Bh.mono:∀ (b:List Nat){zb Ns':List Mon}{a:Act}{w:World},Bh P ops Q zb b a w→(∀ m ∈ Ns',m ∈ zb)→Bh P ops Q Ns' b a w
 | [],_,_,_,_,h,_=>h
 | i::b,zb,Ns',a,w,h,c=>by
  simp only [Bh] at h ⊢;cases d:ops[i]? with
  | none=>rw [d] at h; exact Bh.mono b h (Zx c)
  | some o =>
   rw [d] at h;simp only at h ⊢;split
   ·rename_i hw;rw [if_pos hw] at h;rcases h with h | h
    ·exact .inl (bB h fun a w ⟨e,f⟩=>⟨e.sub (Zx c),Bh.mono b f (Zx c)⟩)
    ·exact .inr h
   ·rename_i hw;rw [if_neg hw] at h;exact Bh.mono b h (Zx c)
theorem Bh.plain:∀ (b:List Nat){zb:List Mon}{a:Act}{w:World},Bh P ops Q zb b a w→wpOps P ops Q b a w
 | [],_,_,_,h=>h
 | i::b,zb,a,w,h=>by
  simp only [Bh] at h;simp only [wpOps];cases c:ops[i]? with
  | none=>rw [c] at h; exact Bh.plain b h
  | some o =>
   rw [c] at h;simp only at h ⊢;split
   ·rename_i hw;rw [if_pos hw] at h;rcases h with h | h
    ·exact .inl (bB h fun a w ⟨_,d⟩=>Bh.plain b d)
    ·exact .inr h
   ·rename_i hw;rw [if_neg hw] at h;exact Bh.plain b h
theorem PB {N:World→Prop}{S:List Nat}{i d:Nat}(q:Xk Q d){o:Oper}{v:Value}(z:ops[i]?=some o) (xa:o.dst=some d){wt:Bool}(A:wt=false→v=undef) :
  ∀ (a b:List Nat) (fr:List Value) (ds:List Deferred) (w:World) (zb:List Mon),
   (∀ j ∈ a,j ∉ S∧match ops[j]? with
    | some p=>Nt p.op=true∧(reads ops p).contains d=false∧p.dst≠some d∧(∀ e,p.dst=some e→(reads ops o).contains e=false)
    | none=>True) →
   N w→Ba zb w→Nt o.op=true→Region.wanted o (yielded ops (F fr ds).tmps)=wt →
   (wt=true→∀ ds w,N w→(execOp (F fr ds).eval o).run P w=.ok (.value v) w) →
   Bh P ops Q ((S,N)::zb) (a++b) (F (fr.set d v) ds) w→Bh P ops Q zb (a++i::b) (F fr ds) w
 | [],b,fr,ds,w,zb,_,hw,s,t,c,u,h=>by
  simp only [List.nil_append] at h ⊢;have h:=Bh.mono b h (Ns':=Ai i zb) fun m hm=>List.mem_cons_of_mem _ (ky m hm);simp only [Bh,z];cases wt with
  | true =>
   rw [if_pos c];left;unfold Oper.wp;rw [u rfl ds w hw,Oper.upon_value,xa];rw [show (F fr ds).put (some d) v=F (fr.set d v) ds from ea rfl ds];exact ⟨s.sub ky,h⟩
  | false =>
   rw [if_neg (by rw [c];simp),xa,← A rfl];rw [show (F fr ds).put (some d) v=F (fr.set d v) ds from ea rfl ds];exact h
 | j::a,b,fr,ds,w,zb,H,hw,s,t,c,u,h=>by
  obtain ⟨U,B⟩:=H j (by simp);have K:∀ k ∈ a,_:=fun k l=>H k (by simp [l]);have V:Ai j ((S,N)::zb)=(S,N)::Ai j zb:=by simp [Ai,U]
  simp only [List.cons_append,Bh,V] at h ⊢;cases L:ops[j]? with
  | none =>
   rw [L] at h;simp only at h ⊢;exact PB q z xa A a b fr ds w _ K hw (s.sub ky) t c u h
  | some p =>
   rw [L] at h B;simp only at h B ⊢;obtain ⟨M,C,W,O⟩:=B;rw [qH (fr:=fr) (v:=v) (ds:=ds) (ds':=ds) C] at h;have key:∀ (x:Value) (w':World) (ds':List Deferred),N w'→Ba (Ai j zb) w'→Bh P ops Q ((S,N)::Ai j zb) (a++b) ((F (fr.set d v) ds').put p.dst x) w'→Bh P ops Q (Ai j zb) (a++i::b) ((F fr ds').put p.dst x) w':=by
    intro x w' ds' X Y l;obtain ⟨g,g1,g2,g3⟩:=put_eq fr ds' p.dst x;have Z:=wanted_put (ops:=ops) (o:=o) (p:=p) (ds':=ds') (fun y D=>g3 fr y ds' ds' D) O;rw [g1] at l ⊢;rw [g2 _ _ _ W] at l;refine PB q z xa A a b (g fr) ds' w' _ K X Y t (Z.trans c) (fun bb n Gb gc=>?_) l;rw [show execOp (F (g fr) n).eval o=execOp (F fr n).eval o from execOp_congr o t fun y D=>g3 fr y n n fun e he lc=>by
     exact ND (O e he) y D lc]
    exact u bb n Gb gc
   by_cases R:Region.wanted p (yielded ops (F fr ds).tmps)=true
   ·rw [if_pos R] at h ⊢;rcases h with h | h
    ·left;unfold Oper.wp at h ⊢;rw [OD (ds':=ds) M C] at h;cases T:(execOp (F fr ds).eval p).run P w with
     | halt e w' =>
      rw [T] at h;cases e<;>first | exact h | exact q _ _ _ _ _ h
     | ok r w' =>
      rw [T] at h;cases r with
      | value x=>exact ⟨h.1.2,key x w' ds h.1.1 h.1.2 h.2⟩
      | skip=>exact ⟨h.1.2,key undef w' ds h.1.1 h.1.2 h.2⟩
      | defer rc=>exact ⟨h.1.2,key undef w' (rc::ds) h.1.1 h.1.2 h.2⟩
      | enter f args =>
       rw [Oper.upon_enter] at h ⊢;refine Calls.mono h fun e E he=>?_;cases e with
       | returned x=>exact ⟨he.1.2,key x E ds he.1.1 he.1.2 he.2⟩
       | panicked fd=>exact q _ _ _ _ _ he
       | outgrown=>exact he
      | row r args =>
       rw [Oper.upon_row] at h ⊢;exact Rows.mono h fun x E he=>⟨he.1.2,key x E ds he.1.1 he.1.2 he.2⟩
      | _=>exact h
    ·right;refine ⟨?_,h.2⟩;have G:=h.1;unfold Oper.asks at G ⊢;rw [OD (ds':=ds) M C] at G;exact G
   ·rw [if_neg R] at h ⊢;exact key undef w ds hw (s.sub ky) h
structure Df (P:Program) (ops:Array Oper) (Q:Exit→Act→World→Prop) (zb:List Mon) (R:List Nat) (fr:List Value) (ds:List Deferred) (w:World):Prop where
 out:Ba zb w→∀ a,Jn ops R a→Bh P ops Q zb a (F fr ds) w
theorem cd {R:List Nat}(h:Df P ops Q [] R fr ds w):lC P ops Q R fr ds w:=⟨fun a b=>Bh.plain a (h.out trivial a b)⟩
theorem Tc {zb:List Mon}(h:Q .normal (F fr ds) w):Df P ops Q zb [] fr ds w:=⟨fun _ b a=>by
 cases a with
 | z=>exact h
 | s h _=>exact absurd (Cu h) (by simp)⟩
def Wm (ops:Array Oper) (S R:List Nat) (i:Nat):Bool :=
 match ops[i]? with
 | some o=>match o.dst with
  | some d=>Nt o.op && R.all fun j=>S.contains j || (match ops[j]? with
    | some p=>Nt p.op && !(reads ops p).contains d && p.dst != some d && (match p.dst with | some e=>!(reads ops o).contains e | none=>true)
    | none=>true)
  | _=>false
 | none=>false
theorem Uv {zb:List Mon}{R R':List Nat}{i:Nat}(S:List Nat) (N:World→Prop){wt:Bool}{dst:Tmp}{op:Op}{ty:TypeId}{pos:String}{after:Array Edge}{l:Option (Nat×Bool)}{v:Value}(C:Xk Q dst) (m:(decide R.Nodup && enabled ops R i && waits ops R S i && Wm ops S R i && S.contains i)=true) (D:R.erase i=R') (n:ops[i]?=some ⟨some dst,op,ty,pos,after,l⟩)
  (E:Region.wanted ⟨some dst,op,ty,pos,after,l⟩ (yielded ops (F fr ds).tmps)=wt) (G:wt=false→v=undef) (o:N w)
  (H:wt=true→∀ ds w',N w'→(execOp (F fr ds).eval ⟨some dst,op,ty,pos,after,l⟩).run P w'=.ok (.value v) w') (f:uc fr dst v Ga) (h:Df P ops Q ((S,N)::zb) R' Ga ds w):Df P ops Q zb R fr ds w:=⟨fun q V r=>by
 simp only [Bool.and_eq_true,decide_eq_true_eq] at m;obtain ⟨⟨⟨⟨s,t⟩,u⟩,g⟩,-⟩:=m;obtain ⟨x,y,rfl,K,z⟩:=r.split s (Cu t) t;have A:=Jn.later (S:=S) r s (fun j d=>by
  unfold waits at u;have:=List.all_eq_true.1 u j d;simp only [Bool.or_eq_true,beq_iff_eq,List.any_eq_true,Bool.and_eq_true,List.contains_iff_mem] at this;rcases this with h | ⟨k,k1,L,M⟩
  ·exact .inl h
  ·exact .inr ⟨k,k1,L,M⟩) x y rfl (fun hm=>(z i hm).2.1 rfl)
 unfold Wm at g;simp only [n,Bool.and_eq_true,List.all_eq_true,Bool.or_eq_true,List.contains_iff_mem] at g;unfold uc at f;subst f;subst D;refine PB C n rfl G (N:=N) (S:=S) (v:=v) x y fr ds w zb (fun j d=>⟨A j d,?_⟩) o q g.1 E H (h.out ⟨o,q⟩ _ K);obtain ⟨a,b,c⟩:=z j d;have:=g.2 j a;rcases this with h | h
 ·exact absurd h (A j d)
 ·cases f:ops[j]? with
  | none=>trivial
  | some p =>
   rw [f] at h;simp only [Bool.and_eq_true,Bool.not_eq_true',bne_iff_ne,ne_eq] at h;obtain ⟨⟨⟨O,T⟩,U⟩,B⟩:=h;refine ⟨O,T,U,fun e he=>?_⟩;rw [he] at B;simpa using B⟩
theorem ng {zb:List Mon}{R R':List Nat}{i:Nat}(S:List Nat){dst:Tmp}{op:Op}{ty:TypeId}{pos:String}{after:Array Edge}{v:Value}(a:Xk Q dst) (b:(decide R.Nodup && enabled ops R i && waits ops R S i && Wm ops S R i && S.contains i)=true) (c:R.erase i=R') (d:ops[i]?=some ⟨some dst,op,ty,pos,after,none⟩)
  (e:Qo P ⟨some dst,op,ty,pos,after,none⟩ fr w v) (f:uc fr dst v Ga) (h:Df P ops Q ((S,fun w'=>Qo P ⟨some dst,op,ty,pos,after,none⟩ fr w' v)::zb) R' Ga ds w):Df P ops Q zb R fr ds w :=
 Uv S _ (wt:=true) a b c d (Si rfl) (fun h=>by cases h) e (fun _ ds w' hw=>hw.out ds) f h
theorem fw {zb:List Mon}{R R':List Nat}{i j d:Nat}{b:Bool}(S:List Nat){dst:Tmp}{op:Op}{ty:TypeId}{pos:String}{after:Array Edge}{v:Value}(a:Xk Q dst) (c:(decide R.Nodup && enabled ops R i && waits ops R S i && Wm ops S R i && S.contains i)=true) (e:R.erase i=R') (f:ops[i]?=some ⟨some dst,op,ty,pos,after,some (j,b)⟩) (g:(ops[j]?).bind (·.dst)=some d) (ia:nc fr d (.bool b))
  (k:Qo P ⟨some dst,op,ty,pos,after,some (j,b)⟩ fr w v) (l:uc fr dst v Ga) (h:Df P ops Q ((S,fun w'=>Qo P ⟨some dst,op,ty,pos,after,some (j,b)⟩ fr w' v)::zb) R' Ga ds w):Df P ops Q zb R fr ds w :=
 Uv S _ (wt:=true) a c e f (zt rfl g ia) (fun h=>by cases h) k (fun _ ds w' hw=>hw.out ds) l h
theorem Bh.add {m:Mon}(c:∀ w,m.2 w):∀ (b:List Nat){zb:List Mon}{a:Act}{w:World},Bh P ops Q zb b a w→Bh P ops Q (m::zb) b a w
 | [],_,_,_,h=>h
 | i::b,zb,a,w,h=>by
  have d:Ai i (m::zb)=m::Ai i zb∨Ai i (m::zb)=Ai i zb:=by
   unfold Ai;rw [List.filter_cons];split
   ·exact .inl rfl
   ·exact .inr rfl
  have key:∀ {a w},Bh P ops Q (Ai i zb) b a w→Bh P ops Q (Ai i (m::zb)) b a w:=fun h=>by
   rcases d with e | e<;>rw [e]
   ·exact Bh.add c b h
   ·exact h
  have g:∀ {w},Ba (Ai i zb) w→Ba (Ai i (m::zb)) w:=fun h=>by
   rcases d with e | e<;>rw [e]
   ·exact ⟨c _,h⟩
   ·exact h
  simp only [Bh] at h ⊢;cases f:ops[i]? with
  | none=>rw [f] at h; exact key h
  | some o =>
   rw [f] at h;simp only at h ⊢;split
   ·rename_i hw;rw [if_pos hw] at h;rcases h with h | h
    ·exact .inl (bB h fun a w ⟨j,k⟩=>⟨g j,key k⟩)
    ·exact .inr h
   ·rename_i hw;rw [if_neg hw] at h;exact key h
theorem cB {zb:List Mon}{m:Mon}{R:List Nat}(b:∀ w,m.2 w) (h:Df P ops Q zb R fr ds w):Df P ops Q (m::zb) R fr ds w:=⟨fun c a d=>Bh.add b a (h.out c.2 a d)⟩
theorem Ac {zb:List Mon}{R R':List Nat}{i:Nat}(S:List Nat){dst:Tmp}{op:Op}{ty:TypeId}{pos:String}{after:Array Edge}{v:Value}(a:Xk Q dst) (b:(decide R.Nodup && enabled ops R i && waits ops R S i && Wm ops S R i && S.contains i)=true) (c:R.erase i=R') (d:ops[i]?=some ⟨some dst,op,ty,pos,after,none⟩)
  (e:Zf P ⟨some dst,op,ty,pos,after,none⟩ fr v) (f:uc fr dst v Ga) (h:Df P ops Q zb R' Ga ds w):Df P ops Q zb R fr ds w :=
 Uv S (fun _=>True) (wt:=true) a b c d (Si rfl) (fun h=>by cases h) trivial (fun _ ds w' _=>e.out ds w') f (cB (fun _=>trivial) h)
theorem Bk {zb:List Mon}{R R':List Nat}{i j d:Nat}{b:Bool}(S:List Nat){dst:Tmp}{op:Op}{ty:TypeId}{pos:String}{after:Array Edge}{v:Value}(a:Xk Q dst) (c:(decide R.Nodup && enabled ops R i && waits ops R S i && Wm ops S R i && S.contains i)=true) (e:R.erase i=R') (f:ops[i]?=some ⟨some dst,op,ty,pos,after,some (j,b)⟩) (g:(ops[j]?).bind (·.dst)=some d) (ia:nc fr d (.bool b))
  (k:Zf P ⟨some dst,op,ty,pos,after,some (j,b)⟩ fr v) (l:uc fr dst v Ga) (h:Df P ops Q zb R' Ga ds w):Df P ops Q zb R fr ds w :=
 Uv S (fun _=>True) (wt:=true) a c e f (zt rfl g ia) (fun h=>by cases h) trivial (fun _ ds w' _=>k.out ds w') l (cB (fun _=>trivial) h)
theorem mh {zb:List Mon}{R R':List Nat}{i j d:Nat}{b Ic:Bool}(S:List Nat){dst:Tmp}{op:Op}{ty:TypeId}{pos:String}{after:Array Edge}(a:Xk Q dst) (c:(decide R.Nodup && enabled ops R i && waits ops R S i && Wm ops S R i && S.contains i)=true) (e:R.erase i=R') (f:ops[i]?=some ⟨some dst,op,ty,pos,after,some (j,b)⟩) (g:(ops[j]?).bind (·.dst)=some d) (ia:nc fr d (.bool Ic)) (k:(Ic == b)=false)
  (l:uc fr dst undef Ga) (h:Df P ops Q zb R' Ga ds w):Df P ops Q zb R fr ds w :=
 Uv S (fun _=>True) (wt:=false) a c e f ((TD rfl g ia).trans k) (fun _=>rfl) trivial (fun h=>by cases h) l (cB (fun _=>trivial) h)
structure Xw (P:Program) (ops:Array Oper) (Q:Exit→Act→World→Prop) (zb:List Mon) (R:List Nat) (fr:List Value) (ds:List Deferred) (w:World):Prop where
 m:Ba zb w
 s:Df P ops Q zb R fr ds w
theorem Ba.s {m:Mon}{l:List Mon}(h:m.2 w) (k:Ba l w):Ba (m::l) w:=⟨h,k⟩
theorem Ba.z:Ba [] w:=trivial
theorem WE {zb:List Mon}{R:List Nat}(c:R≠[]) (h:∀ i ∈ My ops R,∃ o,ops[i]?=some o∧Region.wanted o (yielded ops (F fr ds).tmps)=true∧Td P o fr ds w (Xw P ops Q (Ai i zb) (R.erase i)) Q):Df P ops Q zb R fr ds w:=⟨fun k d e=>by
 cases e with
 | z=>exact absurd rfl c
 | @s _ d i b f =>
  obtain ⟨o,g,hw,j⟩:=h i (List.mem_filter.2 ⟨Cu b,b⟩);simp only [Bh,g];rw [if_pos hw];exact .inl (j.out _ fun Ga ds' w' a=>⟨a.m,a.s.out a.m _ f⟩)⟩
theorem zj {zb Ns':List Mon}{R:List Nat}{i:Nat}{R':List Nat}{o:Oper}(b:My ops R=[i]) (c:R.erase i=R') (xa:Ai i zb=Ns') (d:ops[i]?=some o) (hw:Region.wanted o (yielded ops (F fr ds).tmps)=true)
  (h:Td P o fr ds w (Xw P ops Q Ns' R') Q):Df P ops Q zb R fr ds w :=
 WE (by intro e;subst e;cases b) fun k a=>by
  rw [b] at a;simp at a;subst a;exact ⟨_,d,hw,by rw [c,xa];exact h⟩
theorem cC {zb d f:List Mon}{R:List Nat}{i j:Nat}{g h:List Nat}{a b:Oper}(l:My ops R=[i,j]) (m:R.erase i=g) (n:R.erase j=h) (o:Ai i zb=d) (p:Ai j zb=f) (q:ops[i]?=some a) (r:ops[j]?=some b) (s:Region.wanted a (yielded ops (F fr ds).tmps)=true) (t:Region.wanted b (yielded ops (F fr ds).tmps)=true)
  (u:Td P a fr ds w (Xw P ops Q d g) Q) (v:Td P b fr ds w (Xw P ops Q f h) Q):Df P ops Q zb R fr ds w :=
 WE (by intro e;subst e;cases l) fun k c=>by
  rw [l] at c;simp at c;rcases c with rfl | rfl
  ·exact ⟨_,q,s,by rw [m,o];exact u⟩
  ·exact ⟨_,r,t,by rw [n,p];exact v⟩
theorem gG {zb:List Mon}{R:List Nat}{vi wi:List Value}{d:Nat}{b:Bool}(ia:nc fr d (.bool b)) (a:uc fr d (.bool true) vi) (c:uc fr d (.bool false) wi)
  (e:b=true→Df P ops Q zb R vi ds w) (f:¬ b=true→Df P ops Q zb R wi ds w):Df P ops Q zb R fr ds w:=by
 cases b with
 | true=>have:=e rfl; rw [uc.same ia a] at this; exact this
 | false=>have:=f (by simp); rw [uc.same ia c] at this; exact this
theorem JN {zb:List Mon}{R:List Nat}{vi wi:List Value}{d:Nat}{p:Prop}[Decidable p] (ia:nc fr d (.bool (decide p))) (a:uc fr d (.bool true) vi) (b:uc fr d (.bool false) wi)
  (c:p→Df P ops Q zb R vi ds w) (e:¬ p→Df P ops Q zb R wi ds w):Df P ops Q zb R fr ds w :=
 gG ia a b (fun h=>c (of_decide_eq_true h)) (fun h=>e fun f=>h (decide_eq_true f))
end
end Go.Rb
namespace Go.ec
open Go.Rb Go.RowKit
section
variable {P:Program}{Q:Exit→Act→World→Prop}{K:List Value→List Deferred→World→Prop}{fr Ga:List Value}{ds:List Deferred}{w:World}
variable {dst:Option Tmp}{ty:TypeId}{pos:String}{after:Array Edge}{g:Option (Nat×Bool)}
variable {ca:World}{rs rs':List kb}{μ J:M}
variable {T:TypeId}{d:TypeDesc}{td:Bool}{yd:List Value}{n m:Nat}
theorem tG {t ty:TypeId}{sz bytes:Nat}(b:P.underlying t=some (.slice T)) (e:Nc P T td yd sz bytes){v:Value}{xs:List Value}(f:Row w v T sz n xs){a:Option Addr}{c:Nat} :
  (Builtin.append_ #[t,t] ty #[v,.slice a 0 c]).run P w=.ok v w:=by
 have d:=e.sizeOf (w:=w);rcases f.2 with ⟨rfl,rfl⟩ | ⟨g,o,cap,cur,rfl,i,h,j,k,l⟩
 ·cases a<;>simp [Builtin.append_,run_underlying b,d,Builtin.lenOf,Builtin.firstCells,loadCells,loadCellsFrom]
 ·cases a<;>simp [Builtin.append_,run_underlying b,d,Builtin.lenOf,Builtin.firstCells,h,storeCells,loadCells,loadCellsFrom]
theorem dB {α:Type}[ab α]{t:TypeId}{s x:Operand}{v:Value}{bytes k c:Nat}{a:Option Addr}{cells news:List Value}{l ys j:List α}(m:P.underlying t=some (.slice T)) (n:Nc P T td yd (ab.sz α) bytes) (y:yd.length=ab.sz α)
  (p:ob fr s v) (q:ob fr x (.slice a ys.length c)) (f:ha μ ca w rs) (ia:nc rs k (.row v T (ab.sz α) l.length cells)) (z:ys≠[]→∃ b o,a=some ⟨b,o,none⟩∧Aa μ b o news) (d:Na μ news ys) (A:app l ys=some j) (B:bytes≤4096)
  (h:∀ i w' rs',uc rs k (.row i T (ab.sz α) j.length (cells++news)) rs'→ha μ ca w' rs'→Hh fr dst i fun Ga=>K Ga ds w') :
  Td P (Oper.mk dst (.call { callee:=.builtin .append,args:=#[s,x],argTypes:=#[t,t] }) ty pos after g) fr ds w K Q:=by
 obtain ⟨r,C⟩:=IA A;by_cases u:ys=[]
 ·subst u;obtain rfl:news=[]:=d;have D:Row w v T (ab.sz α) l.length cells:=f.get ia;obtain ⟨Ga,xa⟩:=vj fr dst v;have E:=h v w rs (by
   have:j.length=l.length:=by simpa using r
   rw [this,List.append_nil];unfold uc;obtain ⟨F,e⟩:=List.getElem?_eq_some_iff.1 (show rs[k]?=_ from ia);rw [← e];exact List.set_getElem_self F) f
  refine qi (v:=v) (w':=w) ?_ xa (E Ga xa);have qa:=p ds;have G:=q ds;have d:=tG (P:=P) (ty:=ty) (a:=a) (c:=c) m n D;simp [execOp,resolve,invoke,builtin,qa,G,d]
 ·obtain ⟨b,o,rfl,H⟩:=z u;exact Xx m n (by simp [y,ab.pos]) p q f ia (H _ f.a) d.len d.Yh ⟨C,B⟩ fun i w' rs' L=>h i w' rs' (by rw [r];exact L)
end
end Go.ec
