/- Texts of Xt. -/
import Derived.Test.YthoigniombcphaaGreatDoorCWk
import Derived.LoopN
import Derived.KernelRfl
set_option linter.unusedSimpArgs false
set_option linter.unusedVariables false
set_option linter.unusedSectionVars false
namespace Go.Dc
open Go.bc Go.RowKit
abbrev M:=World→Prop
def ga (μ na:M):Prop:=∀ w,na w→μ w
theorem ga.r {μ:M}:ga μ μ:=fun _ h=>h
theorem ga.t {a b c:M} (h:ga a b) (k:ga b c):ga a c:=fun w x=>h w (k w x)
abbrev ka (μ:M) (J w:World) (rs:List Wb):Prop:=Sep (fun _=>False) (fun _=>True) J w rs μ
def dd (μ:M) (b o:Nat) (cs:List Value):Prop:=∀ w,μ w→gj w b o cs
theorem dd.up {μ na:M} {b o:Nat} {cs:List Value} (h:dd μ b o cs) (l:ga μ na):dd na b o cs:=fun w k=>h w (l w k)
class cb (α:Type) where
 sz:Nat
 pos:0<sz
 cs:M→List Value→α→Prop
 th:∀ {μ:M} {l:List Value} {x:α},cs μ l x→l.length=sz
 up:∀ {μ na:M} {l:List Value} {x:α},ga μ na→cs μ l x→cs na l x
 si:∀ {μ:M} {l:List Value} {x:α},cs μ l x→l.all Me=true
structure Pc {α:Type} (sz:Nat) (R:List Value→α→Prop) (μ:M) (a:Option Addr) (c:Nat) (xs:List α):Prop where
 le:xs.length≤c
 cap:c≤maxLen
 el:xs=[]∨∃ b o,a=some ⟨b,o,none⟩∧∃ g:Nat→List Value,∀ i x,xs[i]?=some x→dd μ b (o+i*sz) (g i)∧R (g i) x
abbrev Ka {α:Type} [cb α] (μ:M) (a:Option Addr) (c:Nat) (xs:List α):Prop:=Pc (cb.sz α) (cb.cs μ) μ a c xs
theorem Pc.imp {α:Type} {sz:Nat} {R Lf:List Value→α→Prop} {μ na:M} {a:Option Addr} {c:Nat} {xs:List α} (h:Pc sz R μ a c xs) (l:ga μ na) (f:∀ (i:Nat) (cs:List Value) (x:α),xs[i]?=some x→R cs x→Lf cs x):Pc sz Lf na a c xs where
 le:=h.le
 cap:=h.cap
 el:=by
  rcases h.el with h | ⟨b,o,j,g,e⟩
  ·exact .inl h
  ·exact .inr ⟨b,o,j,g,fun i x d=>⟨(e i x d).1.up l,f i _ x d (e i x d).2⟩⟩
theorem Ka.up {α:Type} [cb α] {μ na:M} {a:Option Addr} {c:Nat} {xs:List α} (h:Ka μ a c xs) (l:ga μ na):Ka na a c xs:=Pc.imp h l fun _ _ _ _=>cb.up l
theorem Ka.nil {α:Type} [cb α] {μ:M} {a:Option Addr}:Ka (α:=α) μ a 0 []:=⟨by simp,by simp,.inl rfl⟩
theorem Ka.len {α:Type} {sz:Nat} {R:List Value→α→Prop} {μ:M} {a:Option Addr} {c:Nat} {xs:List α} (h:Pc sz R μ a c xs):xs.length≤9223372036854775807:=Nat.le_trans h.le h.cap
instance:cb Int where
 sz:=1
 pos:=by decide
 cs _ l x:=l=[.int .i64 x]
 th h:=by rw [h]; rfl
 up _ h:=h
 si h:=by rw [h]; rfl
instance:cb Bool where
 sz:=1
 pos:=by decide
 cs _ l x:=l=[.bool x]
 th h:=by rw [h]; rfl
 up _ h:=h
 si h:=by rw [h]; rfl
instance:cb (List UInt8) where
 sz:=1
 pos:=by decide
 cs _ l x:=l=[S x]
 th h:=by rw [h]; rfl
 up _ h:=h
 si h:=by rw [h]; rfl
def i64 (n:Int):Option Int:=if -9223372036854775808≤n∧n≤9223372036854775807 then some n else none
def at_ {α:Type} (l:List α) (i:Int):Option α:=if 0≤i then l[i.toNat]? else none
def cut {α:Type} (l:List α) (i j:Int):Option (List α):=if 0≤i∧i≤j∧j≤l.length then some ((l.take j.toNat).drop i.toNat) else none
def cat (a b:List UInt8):Option (List UInt8):=if a.length+b.length≤9223372036854775807 then some (a++b) else none
def app {α:Type} (l:List α) (xs:List α):Option (List α):=if l.length+xs.length≤4294967296 then some (l++xs) else none
theorem ha {α β:Type} {o:Option α} {f:α→Option β} {r:β} (h:Option.bind o f=some r):∃ x,o=some x∧f x=some r:=Option.bind_eq_some_iff.1 h
theorem ao {α:Type} {c:Prop} [Decidable c] {x y:α} {r:α} (a:c) (h:(if c then x else y)=r):x=r:=by rwa [if_pos a] at h
theorem bo {α:Type} {c:Prop} [Decidable c] {x y:α} {r:α} (a:¬ c) (h:(if c then x else y)=r):y=r:=by rwa [if_neg a] at h
theorem xG {n x:Int} (h:i64 n=some x):x=n∧-9223372036854775808≤n∧n≤9223372036854775807:=by
 unfold i64 at h
 split at h
 ·rename_i a
  exact ⟨(Option.some.inj h).symm,a⟩
 ·cases h
theorem zA {n x:Int} (h:i64 n=some x):IntKind.i64.wrap n=x:=by
 obtain ⟨rfl,a,b⟩:=xG h
 exact wr (by omega)
theorem au {α:Type} {l:List α} {i:Int} {x:α} (h:at_ l i=some x):0≤i∧i<l.length∧l[i.toNat]?=some x:=by
 unfold at_ at h
 split at h
 ·rename_i a
  refine ⟨a,?_,h⟩
  have:=(List.getElem?_eq_some_iff.1 h).1
  omega
 ·cases h
theorem Vt {α:Type} {l ys:List α} {i j:Int} (h:cut l i j=some ys):(0≤i∧i≤j∧j≤l.length)∧ys=(l.take j.toNat).drop i.toNat:=by
 unfold cut at h
 split at h
 ·rename_i a
  exact ⟨a,(Option.some.inj h).symm⟩
 ·cases h
theorem yG {a b c:List UInt8} (h:cat a b=some c):c=a++b∧a.length+b.length≤9223372036854775807:=by
 unfold cat at h
 split at h
 ·rename_i d
  exact ⟨(Option.some.inj h).symm,d⟩
 ·cases h
theorem dw {α:Type} {a b c:List α} (h:app a b=some c):c=a++b∧a.length+b.length≤4294967296:=by
 unfold app at h
 split at h
 ·rename_i d
  exact ⟨(Option.some.inj h).symm,d⟩
 ·cases h
structure Du (v:Value) (sz:Nat) (i:Int) (b o:Nat):Prop where
 out:∃ a n c,v=.slice (some ⟨b,a,none⟩) n c∧0≤i∧i<n∧a+i.toNat*sz=o
theorem Pc.elem {α:Type} {sz:Nat} {R:List Value→α→Prop} {μ:M} {a:Option Addr} {c:Nat} {xs:List α} {i:Int} {x:α} (h:Pc sz R μ a c xs) (g:at_ xs i=some x) :
  ∃ b o cs,Du (.slice a xs.length c) sz i b o∧dd μ b o cs∧R cs x:=by
 obtain ⟨j,k,d⟩:=au g
 rcases h.el with rfl | ⟨b,o,rfl,f,e⟩
 ·simp at d
 ·exact ⟨b,_,f i.toNat,⟨o,_,_,rfl,j,k,rfl⟩,(e _ _ d).1,(e _ _ d).2⟩
def pa {α:Type} [cb α] (μ:M):List Value→List α→Prop
 | cells,[]=>cells=[]
 | cells,x::l=>∃ cs t,cells=cs++t∧cb.cs μ cs x∧pa μ t l
theorem pa.len {α:Type} [cb α] {μ:M}:∀ {l:List α} {cells:List Value},pa μ cells l→cells.length=l.length*cb.sz α
 | [],cells,h=>by rw [pa] at h; simp [h]
 | x::l,cells,h=>by
  rw [pa] at h
  obtain ⟨cs,t,rfl,a,b⟩:=h
  simp [pa.len b,cb.th a,Nat.add_mul,Nat.add_comm]
theorem pa.up {α:Type} [cb α] {μ na:M} (qa:ga μ na):∀ {l:List α} {cells:List Value},pa μ cells l→pa na cells l
 | [],cells,h=>by rw [pa] at h ⊢; exact h
 | x::l,cells,h=>by
  rw [pa] at h ⊢
  obtain ⟨cs,t,a,b,c⟩:=h
  exact ⟨cs,t,a,cb.up qa b,pa.up qa c⟩
theorem pa.cat {α:Type} [cb α] {μ:M} {Ia:List α} {a:List Value} (k:pa μ a Ia):∀ {l:List α} {cells:List Value},pa μ cells l→pa μ (cells++a) (l++Ia)
 | [],cells,h=>by rw [pa] at h; subst h; exact k
 | x::l,cells,h=>by
  rw [pa] at h
  obtain ⟨cs,t,rfl,b,c⟩:=h
  rw [List.cons_append,pa]
  exact ⟨cs,t++a,by simp,b,pa.cat k c⟩
theorem pa.nil {α:Type} [cb α] {μ:M}:pa μ [] ([]:List α):=rfl
theorem pa.one {α:Type} [cb α] {μ:M} {cs:List Value} {x:α} (h:cb.cs μ cs x):pa μ cs [x]:=⟨cs,[],by simp,h,rfl⟩
theorem pa.cons {α:Type} [cb α] {μ:M} {cs t:List Value} {x:α} {l:List α} (h:cb.cs μ cs x) (k:pa μ t l):pa μ (cs++t) (x::l):=⟨cs,t,rfl,h,k⟩
theorem pa.si {α:Type} [cb α] {μ:M}:∀ {l:List α} {cells:List Value},pa μ cells l→cells.all Me=true
 | [],cells,h=>by rw [pa] at h; simp [h]
 | x::l,cells,h=>by
  rw [pa] at h
  obtain ⟨cs,t,rfl,a,b⟩:=h
  rw [List.all_append,cb.si a,pa.si b]; rfl
theorem pa.get {α:Type} [cb α] {μ:M}:∀ {l:List α} {cells:List Value} {i:Nat} {x:α},pa μ cells l→l[i]?=some x→cb.cs μ ((cells.drop (i*cb.sz α)).take (cb.sz α)) x
 | [],cells,i,x,h,a=>by simp at a
 | y::l,cells,i,x,h,a=>by
  rw [pa] at h
  obtain ⟨cs,t,rfl,b,c⟩:=h
  cases i with
  | zero=>simp at a; subst a; simp [← cb.th b]; exact b
  | succ i =>
   simp at a
   have:=pa.get c a
   have e:(i+1)*cb.sz α=cs.length+i*cb.sz α:=by rw [Nat.add_mul,cb.th b]; omega
   rw [e,← List.drop_drop]
   simpa using this
theorem Ka.cells {α:Type} [cb α] {μ:M} {a:Option Addr} {c:Nat}:∀ {xs:List α},Ka μ a c xs→∃ cells,pa μ cells xs∧(xs≠[]→∃ b o,a=some ⟨b,o,none⟩∧dd μ b o cells):=by
 intro xs h
 rcases h.el with rfl | ⟨b,o,rfl,g,n⟩
 ·exact ⟨[],rfl,fun h=>absurd rfl h⟩
 ·have key:∀ (l:List α) (k:Nat),xs.drop k=l→∃ cells,pa μ cells l∧dd μ b (o+k*cb.sz α) cells:=by
   intro l
   induction l with
   | nil=>intro k _; exact ⟨[],rfl,fun w _ j v d=>by simp at d⟩
   | cons x l p =>
    intro k i
    have q:xs[k]?=some x:=by
     have:=congrArg (fun l=>l[0]?) i
     simpa using this
    obtain ⟨cells,e,f⟩:=p (k+1) (by rw [← List.tail_drop,i]; rfl)
    obtain ⟨r,m⟩:=n k x q
    refine ⟨g k++cells,pa.cons m e,fun w hw j v d=>?_⟩
    rcases Nat.lt_or_ge j (g k).length with qa | qa
    ·rw [List.getElem?_append_left qa] at d
     exact r w hw j v d
    ·rw [List.getElem?_append_right qa] at d
     have:=f w hw _ v d
     rw [cb.th m] at this qa
     rw [show o+(k+1)*cb.sz α+(j - cb.sz α)=o+k*cb.sz α+j by rw [Nat.add_mul]; omega] at this
     exact this
  obtain ⟨cells,e,f⟩:=key xs 0 rfl
  exact ⟨cells,e,fun _=>⟨b,o,rfl,by simpa using f⟩⟩
section
variable {P:Program} {Q:Exit→Act→World→Prop} {K:List Value→List Deferred→World→Prop} {fr Ca:List Value} {ds:List Deferred} {w:World}
variable {dst:Option Tmp} {ty:TypeId} {pos:String} {after:Array Edge} {g:Option (Nat×Bool)}
variable {J:World} {rs sc:List Wb} {μ:M}
variable {T:TypeId} {d:TypeDesc} {Gf:Bool} {vd:List Value} {n m:Nat}
theorem Ub {c:Code} (f:List Nat) (i:f.Nodup) (d:List tb→World→Prop) (j:∀ m w,d m w→opens m=f)
  (h:He P c (Exit.then (fun n w'=>∃ m Ca,n=F Ca ds∧qe m fr Ca∧d m w') Q) fr ds w)
  (k:∀ m t w,d m w→Q .normal (F (Th t m fr) ds) w):He P c Q fr ds w:=⟨
 wp_mono h.out fun e a w' b=>by
  cases e with
  | normal =>
   obtain ⟨m,Ca,rfl,o,g⟩:=b
   obtain ⟨ld,p⟩:=o.ex (by rw [j m w' g]; exact i)
   have:=k m ld w' g
   rw [← p] at this
   exact this
  | exit id=>exact b
  | goto l=>exact b
  | ret=>exact b
  | panic q=>exact b
  | outgrown=>exact b⟩
theorem Se {c:Code} (f:List Nat) (k:f.Nodup) (b:Nat→List tb→World→Prop) (h:∀ n m w,b n m w→opens m=f) (g:Nat) (m0:List tb) (l:qe m0 fr fr) (i:b g m0 w)
  (round:∀ n m t w,b n m w→He P c (Exit.then (fun o w'=>∃ d e Ca,o=F Ca ds∧qe e fr Ca∧b d e w'∧d<n) Q) (Th t m fr) ds w):He P (.loop c) Q fr ds w:=by
 refine AH (α:={ p:Nat×List tb // opens p.2=f }) f k (fun p=>p.1.2) (fun p=>p.2) (fun p w=>b p.1.1 p.1.2 w) (fun p _=>p.1.1) ⟨(g,m0),h g m0 w i⟩ l i fun p t w q=>?_
 refine (round p.1.1 p.1.2 t w q).mono (tE fun a w' ⟨d,e,Ca,r,s,j,u⟩=>⟨⟨(d,e),h d e w' j⟩,Ca,r,s,j,u⟩)
theorem uI {c:Operand} {x y:Code} {b:Bool} (a:wb fr c (.bool b)) (d:b=true→He P x Q fr ds w) (e:¬ b=true→He P y Q fr ds w):He P (.cond c x y) Q fr ds w :=
 Ey a d fun h=>e (by rw [h]; simp)
theorem OH {c:Operand} {x y:Code} {b:Bool} (a:wb fr c (.bool (!b))) (d:¬ b=true→He P x Q fr ds w) (e:b=true→He P y Q fr ds w):He P (.cond c x y) Q fr ds w :=
 Ey a (fun h=>d (by simpa using h)) fun h=>e (by simpa using h)
theorem vI {ops:Array Oper} {l:List Oper} {oh ph:List Value} {d:Nat} {b:Bool} (qa:hc fr d (.bool b)) (a:Ac fr d (.bool true) oh) (c:Ac fr d (.bool false) ph)
  (e:b=true→qf P ops Q l oh ds w) (f:¬ b=true→qf P ops Q l ph ds w):qf P ops Q l fr ds w:=Fy qa a c e fun h=>f (by rw [h]; simp)
theorem PH {ops:Array Oper} {l:List Oper} {oh ph:List Value} {d:Nat} {b:Bool} (qa:hc fr d (.bool (!b))) (a:Ac fr d (.bool true) oh) (c:Ac fr d (.bool false) ph)
  (e:¬ b=true→qf P ops Q l oh ds w) (f:b=true→qf P ops Q l ph ds w):qf P ops Q l fr ds w:=Fy qa a c (fun h=>e (by simpa using h)) fun h=>f (by simpa using h)
inductive bj:List Wb→Nat→List Wb→Prop where
 | z {rs:List Wb}:bj rs 0 rs
 | s {a r:Wb} {rs sc:List Wb} {k:Nat} (h:bj rs k (r::sc)):bj (a::rs) (k+1) (r::a::sc)
theorem bj.perm {k:Nat} {rs sc:List Wb} (h:bj rs k sc):rs.Perm sc:=by
 induction h with
 | z=>exact .refl _
 | s _ a=>exact (a.cons _).trans (.swap _ _ _)
theorem _root_.Go.bc.Sep.da {k:Nat} {S Jd:Nat→Prop} {A:World→Prop} (h:Sep S Jd J w rs A) (a:bj rs k sc):Sep S Jd J w sc A where
 keeps:=h.keeps
 all r d:=h.all r (a.perm.mem_iff.2 d)
 Oi:=(a.perm.filterMap _).nodup_iff.1 h.Oi
 new b e:=h.new b ((a.perm.filterMap _).mem_iff.2 e)
 oj:=h.oj.mono fun k _ c=>⟨c.1,fun hm=>c.2 ((a.perm.filterMap Wb.block).mem_iff.2 hm)⟩
theorem _root_.Go.bc.Sep.Ew {r:Wb} {B:World→Prop} (h:ka μ J w (r::rs)) (a:∀ w,r.holds w→B w):ka (fun w=>μ w∧B w) J w rs :=
 Sep.freeze h (d0 (α:=Wb)) ia.z (fun _ _=>.inl trivial) a
theorem _root_.Go.bc.Sep.Gi {α:Type} [cb α] {v:Value} {cells:List Value} {l:List α} (h:ka μ J w (.row v T (cb.sz α) n cells::rs)) (p:pa μ cells l) (e:l.length=n) :
  ∃ na a c,v=.slice a l.length c∧ga μ na∧Ka na a c l∧ka na J w rs:=by
 have q:Row w v T (cb.sz α) n cells:=h.all _ (List.mem_cons_self ..)
 have f:=Sep.Ew (B:=fun w=>Row w v T (cb.sz α) n cells) h fun w hw=>hw
 have hle:ga μ (fun w=>μ w∧Row w v T (cb.sz α) n cells):=fun w hw=>hw.1
 rcases q.2 with ⟨rfl,rfl⟩ | ⟨g,o,cap,cur,rfl,D,r,s,E,F⟩
 ·obtain rfl:=List.eq_nil_of_length_eq_zero e
  exact ⟨_,none,0,rfl,hle,Ka.nil,f⟩
 ·subst e
  refine ⟨_,some ⟨g,o,none⟩,cap,rfl,hle,⟨r,s,.inr ⟨g,o,rfl,fun i=>(cells.drop (i*cb.sz α)).take (cb.sz α),fun i x k=>⟨?_,?_⟩⟩⟩,f⟩
  ·intro G t j u d
   obtain ⟨-,y⟩:=t
   have z:0<l.length:=by have:=(List.getElem?_eq_some_iff.1 k).1; omega
   obtain ⟨b,H,c,m,A⟩:=y.Zt z
   simp at m
   obtain ⟨⟨rfl,rfl⟩,rfl⟩:=m
   have C:j<cb.sz α:=by
    have:=(List.getElem?_eq_some_iff.1 d).1
    simp at this; omega
   rw [List.getElem?_take_of_lt C,List.getElem?_drop] at d
   have:=A _ u d
   rw [← Nat.add_assoc] at this
   exact this
  ·exact cb.up hle (p.get k)
theorem _root_.Go.bc.Sep.ud {α:Type} [cb α] {b:Nat} {cells:List Value} {l:List α} (h:ka μ J w (.ba b T cells::rs)) (c:pa μ cells l) (hlen:l.length≤maxLen) :
  ∃ na,ga μ na∧Ka na (some ⟨b,0,none⟩) l.length l∧ka na J w rs:=by
 have d:=Sep.Ew (B:=fun w=>pk w b T cells) h fun w hw=>hw
 have hle:ga μ (fun w=>μ w∧pk w b T cells):=fun w hw=>hw.1
 refine ⟨_,hle,⟨Nat.le_refl _,hlen,.inr ⟨b,0,rfl,fun i=>(cells.drop (i*cb.sz α)).take (cb.sz α),fun i x e=>⟨?_,cb.up hle (c.get e)⟩⟩⟩,d⟩
 intro k f j u a
 have g:j<cb.sz α:=by
  have:=(List.getElem?_eq_some_iff.1 a).1
  simp at this; omega
 rw [List.getElem?_take_of_lt g,List.getElem?_drop] at a
 have:=f.2.cells _ u a
 rw [Nat.zero_add] at this ⊢
 exact this
theorem _root_.Go.bc.Sep.bu {b:Nat} {cells:List Value} (h:ka μ J w (.ba b T cells::rs)):∃ na,ga μ na∧dd na b 0 cells∧ka na J w rs :=
 ⟨_,fun _ hw=>hw.1,fun _ hw=>hw.2.cells,Sep.Ew (B:=fun w=>pk w b T cells) h fun _ hw=>hw⟩
theorem _root_.Go.bc.Sep.ew {sz:Nat} {b k:Nat} {cells:List Value} {S Jd:Nat→Prop} {A:World→Prop} (h:Sep S Jd J w rs A) (qa:hc rs k (.ba b T cells)) (a:cells.length=n*sz) (hlen:n≤maxLen)
  (c:Ac rs k (.row (.slice (some ⟨b,0,none⟩) n n) T sz n cells) sc):Sep S Jd J w sc A:=by
 have d:pk w b T cells:=h.get qa
 refine h.put (b:=b) qa rfl rfl c ⟨a,.inr ⟨b,0,n,⟨cells⟩,rfl,d,Nat.le_refl _,hlen,by simp [a],by simp [← a]⟩⟩ (xh.refl _)
theorem Mc {x y:Operand} {v:Value} {b o sz:Nat} {k:IntKind} {i:Int} {e:TypeId} (a:P.underlying T=some (.slice e)) (d:Lc P e Gf vd sz m) (f:wb fr x v) (h:wb fr y (.int k i)) (he:Du v sz i b o):uf P (Oper.mk dst (.indexAddr T x y) ty pos after g) fr ((.pointer (some ⟨b,o,none⟩))):=by
 obtain ⟨q,n,c,rfl,j,l,p⟩:=he.out
 exact uu a d f h ⟨j,l⟩ p
theorem Gd {x y:Operand} {t ld:TypeId} {a b c:Int} (d:wb fr x (.int .i64 a)) (e:wb fr y (.int .i64 b)) (h:i64 (a+b)=some c):uf P (Oper.mk dst (.binOp .add t x y ld) ty pos after g) fr ((.int .i64 c)):=BH d e (zA h)
theorem Kl {x y:Operand} {t ld:TypeId} {a b c:Int} (d:wb fr x (.int .i64 a)) (e:wb fr y (.int .i64 b)) (h:i64 (a - b)=some c):uf P (Oper.mk dst (.binOp .sub t x y ld) ty pos after g) fr ((.int .i64 c)):=CH d e (zA h)
theorem zG {x y:Operand} {t:TypeId} {k:IntKind} {a:List UInt8} {i:Int} {c:UInt8} (b:P.underlying t=some .string) (d:wb fr x (S a)) (e:wb fr y (.int k i)) (h:at_ a i=some c):uf P (Oper.mk dst (.index t x y) ty pos after g) fr (.int .u8 c.toNat):=vG b d e (au h).1 (au h).2.2
theorem fw {x y:Operand} {t:TypeId} {k:IntKind} {a:List UInt8} {i:Int} {c:UInt8} (b:P.underlying t=some .string) (d:wb fr x (S a)) (e:wb fr y (.int k i)) (h:at_ a i=some c) (f:hf fr dst (.int .u8 c.toNat) Ca) (kk:K Ca ds w):Zd P (Oper.mk dst (.index t x y) ty pos after g) fr ds w K Q:=Ja (zG b d e h) f kk
theorem EB {x y:Operand} {t ld:TypeId} {a b c:List UInt8} (d:wb fr x (S a)) (e:wb fr y (S b)) (h:cat a b=some c):uf P (Oper.mk dst (.binOp .add t x y ld) ty pos after g) fr (S c):=by
 obtain ⟨rfl,qa⟩:=yG h
 exact JH d e qa
structure Ms (v:Value) (sz:Nat) (i j:Option Int) (b:Value):Prop where
 out:∃ a n c,v=.slice a n c∧0≤i.getD 0∧i.getD 0≤j.getD n∧j.getD n≤c∧b=.slice (if c=(i.getD 0).toNat then a else a.map (·.add ((i.getD 0).toNat*sz))) ((j.getD n).toNat - (i.getD 0).toNat) (c - (i.getD 0).toNat)
inductive Jw (fr:List Value):Option Operand→Option Int→Prop where
 | n:Jw fr none none
 | s {x:Operand} {i:Int} (h:wb fr x (.int .i64 i)):Jw fr (some x) (some i)
theorem lq {x:Operand} {Cj up:Option Operand} {v q:Value} {sz:Nat} {i j:Option Int} {e:TypeId} (f:P.underlying T=some (.slice e)) (k:Lc P e Gf vd sz m) (l:wb fr x v) (t:Jw fr Cj i) (r:Jw fr up j) (he:Ms v sz i j q):uf P (Oper.mk dst (.slice T x Cj up none) ty pos after g) fr q:=by
 obtain ⟨a,n,c,rfl,o,b,d,rfl⟩:=he.out
 refine ⟨fun ds w=>?_⟩
 cases t with
 | n =>
  cases r with
  | n =>
   simp at b d
   simp [execOp,l ds,Instr.sliceAt,Instr.slice,run_underlying f,Instr.sliceBounds,k.sizeOf]
   try rfl
  | s h =>
   rename_i y i
   simp at b d
   have sa:i≤(c:Int):=d
   simp [execOp,l ds,h ds,Instr.sliceAt,Instr.slice,run_underlying f,Instr.sliceBounds,Instr.sliceBound,asIntOf,k.sizeOf,b,sa]
   try rfl
 | s h =>
  rename_i y i
  cases r with
  | n =>
   simp at o b d
   simp [execOp,l ds,h ds,Instr.sliceAt,Instr.slice,run_underlying f,Instr.sliceBounds,Instr.sliceBound,asIntOf,k.sizeOf,o,b]
   try rfl
  | s u =>
   rename_i A p
   simp at o b d
   have sa:0≤p:=by omega
   have z:(p.toNat:Int)=p:=by omega
   simp [execOp,l ds,h ds,u ds,Instr.sliceAt,Instr.slice,run_underlying f,Instr.sliceBounds,Instr.sliceBound,asIntOf,k.sizeOf,o,b,d,sa,z]
   try rfl
theorem Ka.Fw {α:Type} [cb α] {μ:M} {a:Option Addr} {c:Nat} {xs ys:List α} {i j:Option Int} (h:Ka μ a c xs) (g:cut xs (i.getD 0) (j.getD xs.length)=some ys) :
  ∃ e tc,Ms (.slice a xs.length c) (cb.sz α) i j (.slice e ys.length tc)∧Ka μ e tc ys:=by
 obtain ⟨⟨l,m,r⟩,rfl⟩:=Vt g
 have hle:=h.le
 refine ⟨(if c=(i.getD 0).toNat then a else a.map (·.add ((i.getD 0).toNat*cb.sz α))),c - (i.getD 0).toNat,⟨a,xs.length,c,rfl,l,m,by omega,?_⟩,?_⟩
 ·rw [show ((xs.take (j.getD ↑xs.length).toNat).drop (i.getD 0).toNat).length=(j.getD ↑xs.length).toNat - (i.getD 0).toNat by simp; omega]
 ·refine ⟨by simp; omega,by have:=h.cap; omega,?_⟩
  rcases h.el with rfl | ⟨b,o,rfl,f,n⟩
  ·left; simp
  ·by_cases p:c=(i.getD 0).toNat
   ·left
    rw [List.drop_eq_nil_iff]
    simp
    omega
   ·right
    rw [if_neg p]
    refine ⟨b,o+(i.getD 0).toNat*cb.sz α,by simp [Fi],fun k=>f ((i.getD 0).toNat+k),fun k x d=>?_⟩
    rw [List.getElem?_drop] at d
    have q:(i.getD 0).toNat+k<(j.getD ↑xs.length).toNat:=by
     have:=(List.getElem?_eq_some_iff.1 d).1
     simp at this; omega
    rw [List.getElem?_take_of_lt q] at d
    have:=n _ x d
    rw [Nat.add_mul,← Nat.add_assoc] at this
    exact this
end
end Go.Dc
namespace Go.Dc
open Go.bc Go.RowKit
section
variable {P:Program} {Q:Exit→Act→World→Prop} {K:List Value→List Deferred→World→Prop} {fr Ca:List Value} {ds:List Deferred} {w:World}
variable {dst:Option Tmp} {ty:TypeId} {pos:String} {after:Array Edge} {g:Option (Nat×Bool)}
variable {J:World} {rs sc:List Wb} {μ:M}
variable {T:TypeId} {d:TypeDesc} {Gf:Bool} {vd:List Value} {n m:Nat}
theorem Bx {x Cj:Operand} {t:TypeId} {a b:List UInt8} {i:Int} (c:P.underlying t=some .string) (d:wb fr x (S a)) (e:wb fr Cj (.int .i64 i)) (h:cut a i a.length=some b):uf P (Oper.mk dst (.slice t x (some Cj) none none) ty pos after g) fr (S b):=by
 obtain ⟨⟨f,j,k⟩,rfl⟩:=Vt h
 have:=MF (dst:=dst) (ty:=ty) (pos:=pos) (after:=after) (g:=g) c d e ⟨f,j⟩
 simpa using this
theorem Cx {x up:Operand} {t:TypeId} {a b:List UInt8} {j:Int} (c:P.underlying t=some .string) (d:wb fr x (S a)) (e:wb fr up (.int .i64 j)) (h:cut a 0 j=some b):uf P (Oper.mk dst (.slice t x none (some up) none) ty pos after g) fr (S b):=by
 obtain ⟨⟨k,f,i⟩,rfl⟩:=Vt h
 have:=NF (dst:=dst) (ty:=ty) (pos:=pos) (after:=after) (g:=g) c d e ⟨f,i⟩
 simpa using this
theorem _root_.Go.bc.Row.Me {v:Value} {sz n:Nat} {xs:List Value} (h:Row w v T sz n xs):Me v=true:=by
 rcases h.2 with ⟨rfl,_⟩ | ⟨g,o,cap,cur,rfl,_⟩ <;> rfl
theorem Wt {f:Nat} {xs ys:List Operand} {vs us:List Value} (a:Xm fr xs vs) (hu:Xm fr ys us):uf P (Oper.mk dst (.makeFunc (.func f) ⟨xs⟩ ⟨ys⟩) ty pos after g) fr (.func (.func f) ⟨vs⟩ ⟨us⟩):=by
 refine ⟨fun ds w=>?_⟩
 have b:=a ds
 have c:=hu ds
 simp [execOp,Instr.makeFunc,b,c]
theorem pa.app {α:Type} [cb α] {cells news:List Value} {l xs Ia:List α} (h:pa μ cells l) (k:pa μ news xs) (g:app l xs=some Ia):pa μ (cells++news) Ia:=by
 obtain ⟨rfl,-⟩:=dw g
 exact pa.cat k h
theorem Qv {α:Type} {l xs Ia:List α} (g:app l xs=some Ia):Ia.length=l.length+xs.length∧l.length+xs.length≤4294967296:=by
 obtain ⟨rfl,h⟩:=dw g
 exact ⟨by simp,h⟩
theorem xj {α:Type} [cb α] {t:TypeId} {s x:Operand} {v:Value} {bytes k b d c:Nat} {cells news:List Value} {l ys Ia:List α} (f:P.underlying t=some (.slice T)) (i:Lc P T Gf vd (cb.sz α) bytes) (j:vd.length=cb.sz α)
  (m:wb fr s v) (n:wb fr x (.slice (some ⟨b,0,none⟩) d c)) (o:ka μ J w rs) (qa:hc rs k (.row v T (cb.sz α) l.length cells)) (p:gj w b 0 news) (e:pa μ news ys) (hm:ys.length=d) (Ul:app l ys=some Ia) (q:bytes≤4096)
  (h:∀ a w' sc,Ac rs k (.row a T (cb.sz α) Ia.length (cells++news)) sc→ka μ J w' sc→Kg fr dst a fun Ca=>K Ca ds w') :
  Zd P (Oper.mk dst (.call { callee:=.builtin .append,args:=#[s,x],argTypes:=#[t,t] }) ty pos after g) fr ds w K Q:=by
 obtain ⟨r,u⟩:=Qv Ul
 subst hm
 refine yx f i (by simp [j,cb.pos]) m n o qa p e.len e.si ⟨u,q⟩ fun a w' sc y=>h a w' sc (by rw [r]; exact y)
theorem _root_.Go.bc.gj.eg {b o:Nat} {cs:List Value} (h:gj w b o cs) (i n:Nat):gj w b (o+i) ((cs.drop i).take n):=by
 intro j v a
 have c:j<n:=by
  have:=(List.getElem?_eq_some_iff.1 a).1
  simp at this; omega
 rw [List.getElem?_take_of_lt c,List.getElem?_drop] at a
 have:=h _ v a
 rw [← Nat.add_assoc] at this
 exact this
theorem dd.eg {b o:Nat} {cs:List Value} (h:dd μ b o cs) (i n:Nat):dd μ b (o+i) ((cs.drop i).take n):=fun w hw=>(h w hw).eg i n
theorem yb {x y:Operand} {b k:Nat} {cs vs:List Value} (d:Lc P T Gf vd n m) (e:wb fr x (.pointer (some ⟨b,0,none⟩))) (f:wb fr y (.agg ⟨vs⟩)) (i:vs.length=n) (j:vs.all Me=true)
  {S Jd:Nat→Prop} {A:World→Prop} (l:Sep S Jd J w rs A) {a:TypeId} (qa:hc rs k (.ba b a cs)) (he:cs.length=n) (o:Ac rs k (.ba b a vs) sc)
  (ya:hf fr dst undef Ca) (h:∀ w',Sep S Jd J w' sc A→K Ca ds w'):Zd P (Oper.mk dst (.store T x y) ty pos after g) fr ds w K Q:=by
 have key:∀ (vs cs pre:List Value),vs.length=cs.length→kd (pre++cs) pre.length vs (pre++vs):=by
  intro vs
  induction vs with
  | nil=>intro cs pre h; cases cs with
   | nil=>exact .z
   | cons c cs=>simp at h
  | cons v vs p =>
   intro cs pre h
   cases cs with
   | nil=>simp at h
   | cons c cs =>
    refine .s (cs1:=pre++v::cs) (by unfold Ac; simp) (by simp) ?_
    have:=p cs (pre++[v]) (by simpa using h)
    simpa using this
 exact En d e f rfl i j l qa (by simpa using key vs cs [] (by omega)) (by simp) o ya h
theorem Jt {pl:Array (Nat×Nat)} {xs:List (Nat×Operand)} {out:List Value} (a:Lc P T Gf vd n m) (b:gi P T pl) (c:ab fr pl vd xs out):uf P (Oper.mk dst (.build T ⟨xs⟩) ty pos after g) fr (.agg ⟨out⟩):=by
 refine ⟨fun ds w=>?_⟩
 obtain ⟨z,d,e⟩:=a.zero (w:=w)
 have f:=c.run (ds:=ds)
 obtain ⟨k,h,j⟩:=b.out
 have hm:=j w
 have qa:((⟨xs⟩:Array (Nat×Operand)).map fun (i,x)=>(i,(F fr ds).eval x)).toList=xs.map fun p=>(p.1,(F fr ds).eval p.2):=by simp
 unfold execOp
 simp only [Instr.build,Sem.run_bind,d,Result.andThen_ok,run_underlying h]
 rw [hm]
 simp only [Result.andThen_ok,e,qa]
 rw [f]
 simp
end
end Go.Dc
namespace Go.bc
theorem wa {α:Type} {a0 xa a2 a3 a4 a5 Tb ic Db a9 v:α} {l:List α} {n:Nat} (h:hc l n v):hc (a0::xa::a2::a3::a4::a5::Tb::ic::Db::a9::l) (n+10) v:=h
theorem Jb {α:Type} {a0 xa a2 a3 a4 a5 Tb ic Db a9 v:α} {l Ia:List α} {n:Nat} (h:Ac l n v Ia):Ac (a0::xa::a2::a3::a4::a5::Tb::ic::Db::a9::l) (n+10) v (a0::xa::a2::a3::a4::a5::Tb::ic::Db::a9::Ia):=by unfold Ac at *; subst h; rfl
theorem Sa {α:Type} {a0 xa a2 a3 a4 a5 Tb ic Db a9 od xc a12 Vd uc Wd a Jc b c v:α} {l:List α} {n:Nat} (h:hc l n v):hc (a0::xa::a2::a3::a4::a5::Tb::ic::Db::a9::od::xc::a12::Vd::uc::Wd::a::Jc::b::c::l) (n+20) v:=h
theorem oc {α:Type} {a0 xa a2 a3 a4 a5 Tb ic Db a9 od xc a12 Vd uc Wd a Jc b c v:α} {l Ia:List α} {n:Nat} (h:Ac l n v Ia):Ac (a0::xa::a2::a3::a4::a5::Tb::ic::Db::a9::od::xc::a12::Vd::uc::Wd::a::Jc::b::c::l) (n+20) v (a0::xa::a2::a3::a4::a5::Tb::ic::Db::a9::od::xc::a12::Vd::uc::Wd::a::Jc::b::c::Ia):=by unfold Ac at *; subst h; rfl
theorem ib {α:Type} {a0 xa a2 a3 a4 a5 Tb ic Db a9 od xc a12 Vd uc Wd a Jc b c a20 a21 d e a24 f g i a28 j v:α} {l:List α} {n:Nat} (h:hc l n v):hc (a0::xa::a2::a3::a4::a5::Tb::ic::Db::a9::od::xc::a12::Vd::uc::Wd::a::Jc::b::c::a20::a21::d::e::a24::f::g::i::a28::j::l) (n+30) v:=h
theorem qd {α:Type} {a0 xa a2 a3 a4 a5 Tb ic Db a9 od xc a12 Vd uc Wd a Jc b c a20 a21 d e a24 f g i a28 j v:α} {l Ia:List α} {n:Nat} (h:Ac l n v Ia):Ac (a0::xa::a2::a3::a4::a5::Tb::ic::Db::a9::od::xc::a12::Vd::uc::Wd::a::Jc::b::c::a20::a21::d::e::a24::f::g::i::a28::j::l) (n+30) v (a0::xa::a2::a3::a4::a5::Tb::ic::Db::a9::od::xc::a12::Vd::uc::Wd::a::Jc::b::c::a20::a21::d::e::a24::f::g::i::a28::j::Ia):=by unfold Ac at *; subst h; rfl
theorem Bb {α:Type} {a0 xa a2 a3 a4 a5 Tb ic Db a9 od xc a12 Vd uc Wd a Jc b c a20 a21 d e a24 f g i a28 j k a31 m o p q r a37 s t v:α} {l:List α} {n:Nat} (h:hc l n v):hc (a0::xa::a2::a3::a4::a5::Tb::ic::Db::a9::od::xc::a12::Vd::uc::Wd::a::Jc::b::c::a20::a21::d::e::a24::f::g::i::a28::j::k::a31::m::o::p::q::r::a37::s::t::l) (n+40) v:=h
theorem Xd {α:Type} {a0 xa a2 a3 a4 a5 Tb ic Db a9 od xc a12 Vd uc Wd a Jc b c a20 a21 d e a24 f g i a28 j k a31 m o p q r a37 s t v:α} {l Ia:List α} {n:Nat} (h:Ac l n v Ia):Ac (a0::xa::a2::a3::a4::a5::Tb::ic::Db::a9::od::xc::a12::Vd::uc::Wd::a::Jc::b::c::a20::a21::d::e::a24::f::g::i::a28::j::k::a31::m::o::p::q::r::a37::s::t::l) (n+40) v (a0::xa::a2::a3::a4::a5::Tb::ic::Db::a9::od::xc::a12::Vd::uc::Wd::a::Jc::b::c::a20::a21::d::e::a24::f::g::i::a28::j::k::a31::m::o::p::q::r::a37::s::t::Ia):=by unfold Ac at *; subst h; rfl
theorem sb {α:Type} {a0 xa a2 a3 a4 a5 Tb ic Db a9 od xc a12 Vd uc Wd a Jc b c a20 a21 d e a24 f g i a28 j k a31 m o p q r a37 s t a40 u w x y z a46 A B a49 v:α} {l:List α} {n:Nat} (h:hc l n v):hc (a0::xa::a2::a3::a4::a5::Tb::ic::Db::a9::od::xc::a12::Vd::uc::Wd::a::Jc::b::c::a20::a21::d::e::a24::f::g::i::a28::j::k::a31::m::o::p::q::r::a37::s::t::a40::u::w::x::y::z::a46::A::B::a49::l) (n+50) v:=h
theorem ee {α:Type} {a0 xa a2 a3 a4 a5 Tb ic Db a9 od xc a12 Vd uc Wd a Jc b c a20 a21 d e a24 f g i a28 j k a31 m o p q r a37 s t a40 u w x y z a46 A B a49 v:α} {l Ia:List α} {n:Nat} (h:Ac l n v Ia):Ac (a0::xa::a2::a3::a4::a5::Tb::ic::Db::a9::od::xc::a12::Vd::uc::Wd::a::Jc::b::c::a20::a21::d::e::a24::f::g::i::a28::j::k::a31::m::o::p::q::r::a37::s::t::a40::u::w::x::y::z::a46::A::B::a49::l) (n+50) v (a0::xa::a2::a3::a4::a5::Tb::ic::Db::a9::od::xc::a12::Vd::uc::Wd::a::Jc::b::c::a20::a21::d::e::a24::f::g::i::a28::j::k::a31::m::o::p::q::r::a37::s::t::a40::u::w::x::y::z::a46::A::B::a49::Ia):=by unfold Ac at *; subst h; rfl
theorem Gc {α:Type} {a0 xa a2 a3 a4 a5 Tb ic Db a9 od xc a12 Vd uc Wd a Jc b c a20 a21 d e a24 f g i a28 j k a31 m o p q r a37 s t a40 u w x y z a46 A B a49 C a51 D a53 E F G H K a59 v:α} {l:List α} {n:Nat} (h:hc l n v):hc (a0::xa::a2::a3::a4::a5::Tb::ic::Db::a9::od::xc::a12::Vd::uc::Wd::a::Jc::b::c::a20::a21::d::e::a24::f::g::i::a28::j::k::a31::m::o::p::q::r::a37::s::t::a40::u::w::x::y::z::a46::A::B::a49::C::a51::D::a53::E::F::G::H::K::a59::l) (n+60) v:=h
theorem zg {α:Type} {a0 xa a2 a3 a4 a5 Tb ic Db a9 od xc a12 Vd uc Wd a Jc b c a20 a21 d e a24 f g i a28 j k a31 m o p q r a37 s t a40 u w x y z a46 A B a49 C a51 D a53 E F G H K a59 v:α} {l Ia:List α} {n:Nat} (h:Ac l n v Ia):Ac (a0::xa::a2::a3::a4::a5::Tb::ic::Db::a9::od::xc::a12::Vd::uc::Wd::a::Jc::b::c::a20::a21::d::e::a24::f::g::i::a28::j::k::a31::m::o::p::q::r::a37::s::t::a40::u::w::x::y::z::a46::A::B::a49::C::a51::D::a53::E::F::G::H::K::a59::l) (n+60) v (a0::xa::a2::a3::a4::a5::Tb::ic::Db::a9::od::xc::a12::Vd::uc::Wd::a::Jc::b::c::a20::a21::d::e::a24::f::g::i::a28::j::k::a31::m::o::p::q::r::a37::s::t::a40::u::w::x::y::z::a46::A::B::a49::C::a51::D::a53::E::F::G::H::K::a59::Ia):=by unfold Ac at *; subst h; rfl
theorem Oc {α:Type} {a0 xa a2 a3 a4 a5 Tb ic Db a9 od xc a12 Vd uc Wd a Jc b c a20 a21 d e a24 f g i a28 j k a31 m o p q r a37 s t a40 u w x y z a46 A B a49 C a51 D a53 E F G H K a59 L M N P Q R S T V W v:α} {l:List α} {n:Nat} (h:hc l n v):hc (a0::xa::a2::a3::a4::a5::Tb::ic::Db::a9::od::xc::a12::Vd::uc::Wd::a::Jc::b::c::a20::a21::d::e::a24::f::g::i::a28::j::k::a31::m::o::p::q::r::a37::s::t::a40::u::w::x::y::z::a46::A::B::a49::C::a51::D::a53::E::F::G::H::K::a59::L::M::N::P::Q::R::S::T::V::W::l) (n+70) v:=h
theorem Zf {α:Type} {a0 xa a2 a3 a4 a5 Tb ic Db a9 od xc a12 Vd uc Wd a Jc b c a20 a21 d e a24 f g i a28 j k a31 m o p q r a37 s t a40 u w x y z a46 A B a49 C a51 D a53 E F G H K a59 L M N P Q R S T V W v:α} {l Ia:List α} {n:Nat} (h:Ac l n v Ia):Ac (a0::xa::a2::a3::a4::a5::Tb::ic::Db::a9::od::xc::a12::Vd::uc::Wd::a::Jc::b::c::a20::a21::d::e::a24::f::g::i::a28::j::k::a31::m::o::p::q::r::a37::s::t::a40::u::w::x::y::z::a46::A::B::a49::C::a51::D::a53::E::F::G::H::K::a59::L::M::N::P::Q::R::S::T::V::W::l) (n+70) v (a0::xa::a2::a3::a4::a5::Tb::ic::Db::a9::od::xc::a12::Vd::uc::Wd::a::Jc::b::c::a20::a21::d::e::a24::f::g::i::a28::j::k::a31::m::o::p::q::r::a37::s::t::a40::u::w::x::y::z::a46::A::B::a49::C::a51::D::a53::E::F::G::H::K::a59::L::M::N::P::Q::R::S::T::V::W::Ia):=by unfold Ac at *; subst h; rfl
theorem Nc {α:Type} {a0 xa a2 a3 a4 a5 Tb ic Db a9 od xc a12 Vd uc Wd a Jc b c a20 a21 d e a24 f g i a28 j k a31 m o p q r a37 s t a40 u w x y z a46 A B a49 C a51 D a53 E F G H K a59 L M N P Q R S T V W a70 X a72 Y Z a75 a76 gc lc rc v:α} {l:List α} {n:Nat} (h:hc l n v):hc (a0::xa::a2::a3::a4::a5::Tb::ic::Db::a9::od::xc::a12::Vd::uc::Wd::a::Jc::b::c::a20::a21::d::e::a24::f::g::i::a28::j::k::a31::m::o::p::q::r::a37::s::t::a40::u::w::x::y::z::a46::A::B::a49::C::a51::D::a53::E::F::G::H::K::a59::L::M::N::P::Q::R::S::T::V::W::a70::X::a72::Y::Z::a75::a76::gc::lc::rc::l) (n+80) v:=h
theorem qg {α:Type} {a0 xa a2 a3 a4 a5 Tb ic Db a9 od xc a12 Vd uc Wd a Jc b c a20 a21 d e a24 f g i a28 j k a31 m o p q r a37 s t a40 u w x y z a46 A B a49 C a51 D a53 E F G H K a59 L M N P Q R S T V W a70 X a72 Y Z a75 a76 gc lc rc v:α} {l Ia:List α} {n:Nat} (h:Ac l n v Ia):Ac (a0::xa::a2::a3::a4::a5::Tb::ic::Db::a9::od::xc::a12::Vd::uc::Wd::a::Jc::b::c::a20::a21::d::e::a24::f::g::i::a28::j::k::a31::m::o::p::q::r::a37::s::t::a40::u::w::x::y::z::a46::A::B::a49::C::a51::D::a53::E::F::G::H::K::a59::L::M::N::P::Q::R::S::T::V::W::a70::X::a72::Y::Z::a75::a76::gc::lc::rc::l) (n+80) v (a0::xa::a2::a3::a4::a5::Tb::ic::Db::a9::od::xc::a12::Vd::uc::Wd::a::Jc::b::c::a20::a21::d::e::a24::f::g::i::a28::j::k::a31::m::o::p::q::r::a37::s::t::a40::u::w::x::y::z::a46::A::B::a49::C::a51::D::a53::E::F::G::H::K::a59::L::M::N::P::Q::R::S::T::V::W::a70::X::a72::Y::Z::a75::a76::gc::lc::rc::Ia):=by unfold Ac at *; subst h; rfl
theorem fe {α:Type} {a0 xa a2 a3 a4 a5 Tb ic Db a9 od xc a12 Vd uc Wd a Jc b c a20 a21 d e a24 f g i a28 j k a31 m o p q r a37 s t a40 u w x y z a46 A B a49 C a51 D a53 E F G H K a59 L M N P Q R S T V W a70 X a72 Y Z a75 a76 gc lc rc a80 fd id md rd a85 wd a87 Fd Id v:α} {l:List α} {n:Nat} (h:hc l n v):hc (a0::xa::a2::a3::a4::a5::Tb::ic::Db::a9::od::xc::a12::Vd::uc::Wd::a::Jc::b::c::a20::a21::d::e::a24::f::g::i::a28::j::k::a31::m::o::p::q::r::a37::s::t::a40::u::w::x::y::z::a46::A::B::a49::C::a51::D::a53::E::F::G::H::K::a59::L::M::N::P::Q::R::S::T::V::W::a70::X::a72::Y::Z::a75::a76::gc::lc::rc::a80::fd::id::md::rd::a85::wd::a87::Fd::Id::l) (n+90) v:=h
theorem Zh {α:Type} {a0 xa a2 a3 a4 a5 Tb ic Db a9 od xc a12 Vd uc Wd a Jc b c a20 a21 d e a24 f g i a28 j k a31 m o p q r a37 s t a40 u w x y z a46 A B a49 C a51 D a53 E F G H K a59 L M N P Q R S T V W a70 X a72 Y Z a75 a76 gc lc rc a80 fd id md rd a85 wd a87 Fd Id v:α} {l Ia:List α} {n:Nat} (h:Ac l n v Ia):Ac (a0::xa::a2::a3::a4::a5::Tb::ic::Db::a9::od::xc::a12::Vd::uc::Wd::a::Jc::b::c::a20::a21::d::e::a24::f::g::i::a28::j::k::a31::m::o::p::q::r::a37::s::t::a40::u::w::x::y::z::a46::A::B::a49::C::a51::D::a53::E::F::G::H::K::a59::L::M::N::P::Q::R::S::T::V::W::a70::X::a72::Y::Z::a75::a76::gc::lc::rc::a80::fd::id::md::rd::a85::wd::a87::Fd::Id::l) (n+90) v (a0::xa::a2::a3::a4::a5::Tb::ic::Db::a9::od::xc::a12::Vd::uc::Wd::a::Jc::b::c::a20::a21::d::e::a24::f::g::i::a28::j::k::a31::m::o::p::q::r::a37::s::t::a40::u::w::x::y::z::a46::A::B::a49::C::a51::D::a53::E::F::G::H::K::a59::L::M::N::P::Q::R::S::T::V::W::a70::X::a72::Y::Z::a75::a76::gc::lc::rc::a80::fd::id::md::rd::a85::wd::a87::Fd::Id::Ia):=by unfold Ac at *; subst h; rfl
theorem Pa {α:Type} {a0 xa a2 a3 a4 a5 Tb ic Db a9 od xc a12 Vd uc Wd a Jc b c a20 a21 d e a24 f g i a28 j k a31 m o p q r a37 s t a40 u w x y z a46 A B a49 C a51 D a53 E F G H K a59 L M N P Q R S T V W a70 X a72 Y Z a75 a76 gc lc rc a80 fd id md rd a85 wd a87 Fd Id be a91 ce a93 ge he le ne Ne of v:α} {l:List α} {n:Nat} (h:hc l n v):hc (a0::xa::a2::a3::a4::a5::Tb::ic::Db::a9::od::xc::a12::Vd::uc::Wd::a::Jc::b::c::a20::a21::d::e::a24::f::g::i::a28::j::k::a31::m::o::p::q::r::a37::s::t::a40::u::w::x::y::z::a46::A::B::a49::C::a51::D::a53::E::F::G::H::K::a59::L::M::N::P::Q::R::S::T::V::W::a70::X::a72::Y::Z::a75::a76::gc::lc::rc::a80::fd::id::md::rd::a85::wd::a87::Fd::Id::be::a91::ce::a93::ge::he::le::ne::Ne::of::l) (n+100) v:=h
theorem dc {α:Type} {a0 xa a2 a3 a4 a5 Tb ic Db a9 od xc a12 Vd uc Wd a Jc b c a20 a21 d e a24 f g i a28 j k a31 m o p q r a37 s t a40 u w x y z a46 A B a49 C a51 D a53 E F G H K a59 L M N P Q R S T V W a70 X a72 Y Z a75 a76 gc lc rc a80 fd id md rd a85 wd a87 Fd Id be a91 ce a93 ge he le ne Ne of v:α} {l Ia:List α} {n:Nat} (h:Ac l n v Ia):Ac (a0::xa::a2::a3::a4::a5::Tb::ic::Db::a9::od::xc::a12::Vd::uc::Wd::a::Jc::b::c::a20::a21::d::e::a24::f::g::i::a28::j::k::a31::m::o::p::q::r::a37::s::t::a40::u::w::x::y::z::a46::A::B::a49::C::a51::D::a53::E::F::G::H::K::a59::L::M::N::P::Q::R::S::T::V::W::a70::X::a72::Y::Z::a75::a76::gc::lc::rc::a80::fd::id::md::rd::a85::wd::a87::Fd::Id::be::a91::ce::a93::ge::he::le::ne::Ne::of::l) (n+100) v (a0::xa::a2::a3::a4::a5::Tb::ic::Db::a9::od::xc::a12::Vd::uc::Wd::a::Jc::b::c::a20::a21::d::e::a24::f::g::i::a28::j::k::a31::m::o::p::q::r::a37::s::t::a40::u::w::x::y::z::a46::A::B::a49::C::a51::D::a53::E::F::G::H::K::a59::L::M::N::P::Q::R::S::T::V::W::a70::X::a72::Y::Z::a75::a76::gc::lc::rc::a80::fd::id::md::rd::a85::wd::a87::Fd::Id::be::a91::ce::a93::ge::he::le::ne::Ne::of::Ia):=by unfold Ac at *; subst h; rfl
end Go.bc
namespace Go.bc
open Go.RowKit
section
variable {P:Program} {Q:Exit→Act→World→Prop} {K:List Value→List Deferred→World→Prop} {fr Ca:List Value} {ds:List Deferred} {w:World}
variable {dst:Option Tmp} {ty:TypeId} {pos:String} {after:Array Edge} {g:Option (Nat×Bool)}
variable {S Jd:Nat→Prop} {J:World} {rs sc:List Wb} {A:World→Prop}
variable {T:TypeId}
inductive Lj:TypeDesc→Value→Prop where
 | str (l:List UInt8):Lj .string (bc.S l)
 | int (k:IntKind) (n:Int):Lj (.int k) (.int k n)
def Aj:Value→Value→Bool
 | .string a,.string b=>decide (a.data.toList=b.data.toList)
 | .int _ a,.int _ b=>decide (a=b)
 | _,_=>false
def Nl (es:List MapEntry) (k:Value):Option (Nat×Value):=(es.zipIdx.find? fun e=>Aj k e.1.key).map fun e=>(e.2,e.1.val)
theorem ID {d:TypeDesc} {k:Value} (a:Lj d k):∀ (es:List MapEntry) (i:Nat),(∀ e ∈ es,Lj d e.key)→Instr.findNow d k es i=some (((es.zipIdx i).find? fun e=>Aj k e.1.key).map fun e=>(e.2,e.1.val)):=by
 intro es
 induction es with
 | nil=>intro i _; simp [Instr.findNow]
 | cons e es b =>
  intro i h
  have he:=h e (by simp)
  have c:=b (i+1) fun x f=>h x (by simp [f])
  simp only [Instr.findNow,List.zipIdx_cons,List.find?_cons]
  have g:Instr.sameNow d k e.key=some (Aj k e.key):=by
   generalize e.key=j at he
   cases a with
   | str l =>
    cases he with
    | str Ia =>
     simp only [Instr.sameNow,bc.S,Aj]
     congr 1
     rw [Bool.eq_iff_iff,Ax]
     simp
   | int kk n =>
    cases he with
    | int _ m =>
     simp only [Instr.sameNow,if_true,Aj]
     congr 1
  rw [g]
  cases o:Aj k e.key with
  | true=>simp
  | false=>exact c
theorem run_findKey {af:TypeId} {d:TypeDesc} {k:Value} {es:List MapEntry} (a:P.underlying af=some d) (b:Lj d k) (he:∀ e ∈ es,Lj d e.key):(Instr.findKey af k es).run P w=.ok (Nl es k) w:=by
 unfold Instr.findKey Nl
 simp only [Sem.run_bind,run_underlying a,Result.andThen_ok,ID b es 0 he]
 rfl
theorem run_checkKey {af:TypeId} {d:TypeDesc} {k:Value} {b:Bool} (a:P.underlying af=some d) (c:Lj d k):(Instr.checkKey b 10000 af k).run P w=.ok () w:=by
 show (Instr.checkKey b (9999+1) af k).run P w=_
 unfold Instr.checkKey
 simp only [Sem.run_bind,run_underlying a,Result.andThen_ok]
 cases c <;> rfl
theorem hj (a:Sep S Jd J w rs A) (h:∀ b w',w.heap.size≤b→Sep S Jd J w' (.map b [] 0::rs) A→Kg fr dst (.map (some b)) fun Ca=>K Ca ds w'):Zd P (Oper.mk dst (.makeMap T none) ty pos after g) fr ds w K Q:=by
 obtain ⟨Ca,ya⟩:=jh fr dst (.map (some w.heap.size))
 refine ig (v:=.map (some w.heap.size)) (w':=w.alloc (.map #[] 0)) ?_ ya (h _ _ (Nat.le_refl _) (a.alloc rfl (heap_alloc_new w _)) Ca ya)
 simp [execOp,Instr.makeMap]
def gl (es:List MapEntry) (k z:Value):Value:=(Nl es k).elim z (·.2)
def mq (es:List MapEntry) (k:Value):Bool:=(Nl es k).isSome
def putAt (es:List MapEntry) (c:Nat) (k v:Value):List MapEntry:=match Nl es k with
 | some (i,_)=>es.modify i fun e=>{ e with key:=k,val:=v }
 | none=>es++[{ key:=k,val:=v,born:=c }]
def Rn (es:List MapEntry) (c:Nat) (k:Value):Nat:=match Nl es k with
 | some _=>c
 | none=>c+1
theorem JD {es:List MapEntry} {k v:Value} {i:Nat} (h:Nl es k=some (i,v)):∃ e,es[i]?=some e∧Aj k e.key=true∧e.val=v:=by
 unfold Nl at h
 cases a:es.zipIdx.find? fun e=>Aj k e.1.key with
 | none=>rw [a] at h; cases h
 | some x =>
  rw [a] at h
  simp only [Option.map_some,Option.some.injEq,Prod.mk.injEq] at h
  obtain ⟨rfl,rfl⟩:=h
  have b:=List.find?_some (p:=fun e:MapEntry×Nat=>Aj k e.1.key) a
  have c:=List.mem_of_find?_eq_some a
  exact ⟨x.1,by have:=List.mem_zipIdx_iff_getElem?.1 c; simpa using this,b,rfl⟩
theorem vE {d:TypeDesc} {k a:Value} (c:Lj d k) (b:Lj d a) (h:Aj k a=true):Instr.sameBits 10000 a k=true:=by
 cases c with
 | str l =>
  cases b with
  | str Ia =>
   simp [Aj,bc.S] at h
   subst h
   simp only [Instr.sameBits,bc.S]
   exact (Ax _ _).2 rfl
 | int kk n =>
  cases b with
  | int _ e =>
   simp [Aj] at h
   subst h
   simp [Instr.sameBits]
theorem FB {x y z:Operand} {af aa:TypeId} {d:TypeDesc} {df v:Value} {b c k:Nat} {es:List MapEntry} (m:P.underlying T=some (.map af aa)) (n:P.underlying af=some d) (o:wb fr x (.map (some b))) (p:wb fr y df) (a:Lj d df) (q:wb fr z v)
  (r:Sep S Jd J w rs A) (qa:hc rs k (.map b es c)) (he:∀ e ∈ es,Lj d e.key)
  (ya:hf fr dst undef Ca) (h:∀ w' sc,Ac rs k (.map b (putAt es c df v) (Rn es c df)) sc→Sep S Jd J w' sc A→K Ca ds w'):Zd P (Oper.mk dst (.mapUpdate T x y z) ty pos after g) fr ds w K Q:=by
 have f:w.heap[b]?=some (.map ⟨es⟩ c):=r.get qa
 have C:b<w.heap.size:=(Array.getElem?_eq_some_iff.1 f).1
 let w':World:={ w with heap:=w.heap.setIfInBounds b (.map ⟨putAt es c df v⟩ (Rn es c df)) }
 have D:xh (fun k=>k≠b) w w':=⟨rfl,rfl,rfl,by simp [w'],fun j _ E=>by simp [w',Array.getElem?_setIfInBounds,Ne.symm E]⟩
 have F:=r.put (b:=b) (r':=.map b (putAt es c df v) (Rn es c df)) (w':=w') qa rfl rfl rfl (by show w'.heap[b]?=_; simp [w',C]) D
 have s:=run_checkKey (P:=P) (w:=w) (b:=false) n a
 have t:=run_findKey (P:=P) (w:=w) n a he
 refine vy (w':=w') ?_ ya (h w' _ rfl F)
 cases l:Nl es df with
 | none=>simp [execOp,o ds,p ds,q ds,Instr.mapUpdate,run_underlying m,getObj,setObj,Sem.run,f,Result.andThen,s,t,l,w',putAt,Rn]
 | some e =>
  obtain ⟨i,u⟩:=e
  obtain ⟨e,B,G,-⟩:=JD l
  have H:=vE a (he e (List.mem_of_getElem? B)) G
  simp [execOp,o ds,p ds,q ds,Instr.mapUpdate,run_underlying m,getObj,setObj,Sem.run,f,Result.andThen,s,t,l,B,Instr.keyThatStays,H,w',putAt,Rn]
theorem dF {x:Operand} {af aa:TypeId} {m c k:Nat} {es:List MapEntry} (d:P.underlying T=some (.map af aa)) (e:wb fr x (.map (some m))) (a:Sep S Jd J w rs A) (qa:hc rs k (.map m es c))
  (h:∀ b w',w.heap.size≤b→Sep S Jd J w' (.aj b m c [] c::rs) A→Kg fr dst (.pointer (some ⟨b,0,none⟩)) fun Ca=>K Ca ds w'):Zd P (Oper.mk dst (.range T x) ty pos after g) fr ds w K Q:=by
 have f:w.heap[m]?=some (.map ⟨es⟩ c):=a.get qa
 obtain ⟨Ca,ya⟩:=jh fr dst (.pointer (some ⟨w.heap.size,0,none⟩))
 refine ig (v:=.pointer (some ⟨w.heap.size,0,none⟩)) (w':=w.alloc (.mapIter (some m) c #[] c)) ?_ ya (h _ _ (Nat.le_refl _) (a.alloc rfl (heap_alloc_new w _)) Ca ya)
 simp [execOp,e ds,Instr.range,run_underlying d,getObj,Sem.run,f,Result.andThen]
end
end Go.bc
namespace Go.Dc
open Go.bc Go.RowKit
section
variable {P:Program} {Q:Exit→Act→World→Prop} {K:List Value→List Deferred→World→Prop} {fr Ca:List Value} {ds:List Deferred} {w:World}
variable {dst:Option Tmp} {ty:TypeId} {pos:String} {after:Array Edge} {g:Option (Nat×Bool)}
variable {J:World} {rs sc:List Wb} {μ na:M}
variable {T:TypeId} {d:TypeDesc} {Gf:Bool} {vd:List Value} {n m:Nat}
theorem aB {x y:Operand} {af aa:TypeId} {d:TypeDesc} {df z:Value} {b c:Nat} {es:List MapEntry} (a:P.underlying T=some (.map af aa)) (f:P.underlying af=some d) (i:wb fr x (.map (some b))) (j:wb fr y df) (k:Lj d df)
  (p:∀ w,(zeroValue aa).run P w=.ok z w) (l:w.heap[b]?=some (.map ⟨es⟩ c)) (he:∀ e ∈ es,Lj d e.key)
  (q:hf fr dst (gl es df z) Ca) (h:K Ca ds w):Zd P (Oper.mk dst (.lookup T x y false) ty pos after g) fr ds w K Q:=by
 refine ig (w':=w) ?_ q h
 have m:=run_checkKey (w:=w) (b:=es.isEmpty) f k
 have n:=run_findKey (w:=w) f k he
 cases o:Nl es df with
 | none=>simp [execOp,i ds,j ds,Instr.lookup,run_underlying a,getObj,Sem.run,l,Result.andThen,m,n,o,p w,gl]
 | some e=>simp [execOp,i ds,j ds,Instr.lookup,run_underlying a,getObj,Sem.run,l,Result.andThen,m,n,o,gl]
theorem AA {x y:Operand} {af aa:TypeId} {d:TypeDesc} {df z:Value} {b c:Nat} {es:List MapEntry} (a:P.underlying T=some (.map af aa)) (f:P.underlying af=some d) (i:wb fr x (.map (some b))) (j:wb fr y df) (k:Lj d df)
  (p:∀ w,(zeroValue aa).run P w=.ok z w) (l:w.heap[b]?=some (.map ⟨es⟩ c)) (he:∀ e ∈ es,Lj d e.key)
  (q:hf fr dst (.tuple #[gl es df z,.bool (mq es df)]) Ca) (h:K Ca ds w):Zd P (Oper.mk dst (.lookup T x y true) ty pos after g) fr ds w K Q:=by
 refine ig (w':=w) ?_ q h
 have m:=run_checkKey (w:=w) (b:=es.isEmpty) f k
 have n:=run_findKey (w:=w) f k he
 cases o:Nl es df with
 | none=>simp [execOp,i ds,j ds,Instr.lookup,run_underlying a,getObj,Sem.run,l,Result.andThen,m,n,o,p w,gl,mq]
 | some e=>simp [execOp,i ds,j ds,Instr.lookup,run_underlying a,getObj,Sem.run,l,Result.andThen,m,n,o,gl,mq]
class tb (κ:Type) [DecidableEq κ] where
 key:κ→Value
 Ce:TypeDesc
 af:∀ k,Lj Ce (key k)
 eq:∀ a b,Aj (key a) (key b)=decide (a=b)
instance:tb (List UInt8) where
 key:=S
 Ce:=.string
 af:=.str
 eq a b:=by simp [Aj,S]
instance:tb Int where
 key n:=.int .i64 n
 Ce:=.int .i64
 af:=.int .i64
 eq a b:=by simp [Aj]
class lh (β:Type) where
 cj:M→Value→β→Prop
 up:∀ {μ na:M} {v:Value} {x:β},ga μ na→cj μ v x→cj na v x
instance:lh Int where
 cj _ v x:=v=.int .i64 x
 up _ h:=h
instance:lh (List UInt8) where
 cj _ v x:=v=S x
 up _ h:=h
def Dq {α:Type} [cb α] (μ:M) (v:Value) (x:α):Prop:=∃ cs,v=.agg ⟨cs⟩∧cb.cs μ cs x
theorem Dq.up {α:Type} [cb α] {v:Value} {x:α} (l:ga μ na) (h:Dq μ v x):Dq na v x:=by
 obtain ⟨cs,a,b⟩:=h
 exact ⟨cs,a,cb.up l b⟩
def eo {α:Type} [cb α] (μ:M) (v:Value) (x:α):Prop:=∃ b o cs,v=.pointer (some ⟨b,o,none⟩)∧dd μ b o cs∧cb.cs μ cs x
theorem eo.up {α:Type} [cb α] {v:Value} {x:α} (l:ga μ na) (h:eo μ v x):eo na v x:=by
 obtain ⟨b,o,cs,a,c,d⟩:=h
 exact ⟨b,o,cs,a,c.up l,cb.up l d⟩
def uh {α:Type} [cb α] (μ:M) (v:Value):Option α→Prop
 | none=>v=.pointer none
 | some x=>eo μ v x
theorem uh.up {α:Type} [cb α] {v:Value} {x:Option α} (h:uh μ v x) (l:ga μ na):uh na v x:=by
 cases x with
 | none=>exact h
 | some x=>exact eo.up l h
theorem uh.Me {α:Type} [cb α] {v:Value} {x:Option α} (h:uh μ v x):Me v=true:=by
 cases x with
 | none=>rw [show v=.pointer none from h]; rfl
 | some x=>obtain ⟨b,o,cs,rfl,-⟩:=h; rfl
theorem uh.of {α:Type} [cb α] {b o:Nat} {cs:List Value} {x:α} (h:dd μ b o cs) (k:cb.cs μ cs x):uh μ (.pointer (some ⟨b,o,none⟩)) (some x):=⟨b,o,cs,rfl,h,k⟩
theorem uh.get {α:Type} [cb α] {v:Value} {o:Option α} {x:α} (h:uh μ v o) (g:o=some x):∃ b o cs,v=.pointer (some ⟨b,o,none⟩)∧dd μ b o cs∧cb.cs μ cs x:=by
 subst g; exact h
instance {α:Type} [cb α]:cb (Option α) where
 sz:=1
 pos:=by decide
 cs μ l x:=∃ v,l=[v]∧uh μ v x
 th h:=by obtain ⟨v,rfl,-⟩:=h; rfl
 up l h:=by obtain ⟨v,a,b⟩:=h; exact ⟨v,a,b.up l⟩
 si h:=by obtain ⟨v,rfl,h⟩:=h; simp [h.Me]
def vb {κ β:Type} [DecidableEq κ]:List (κ×β)→κ→Option β
 | [],_=>none
 | (a,b)::m,k=>if a=k then some b else vb m k
def cc {κ β:Type} [DecidableEq κ]:List (κ×β)→κ→β→List (κ×β)
 | [],k,x=>[(k,x)]
 | (a,b)::m,k,x=>if a=k then (k,x)::m else (a,b)::cc m k x
def Pe {κ β:Type} [DecidableEq κ] [tb κ] [lh β] (μ:M):List MapEntry→List (κ×β)→Prop
 | [],m=>m=[]
 | e::es,m=>∃ k x t,m=(k,x)::t∧e.key=tb.key k∧lh.cj μ e.val x∧Pe μ es t
structure je {κ β:Type} [DecidableEq κ] [tb κ] [lh β] (μ:M) (es:List MapEntry) (c:Nat) (m:List (κ×β)):Prop where
 df:Pe μ es m
 lt:∀ e ∈ es,e.born<c
 inc:es.Pairwise fun a b=>a.born<b.born
variable {κ β:Type} [DecidableEq κ] [tb κ] [lh β]
theorem Pe.up (l:ga μ na):∀ {es:List MapEntry} {m:List (κ×β)},Pe μ es m→Pe na es m
 | [],m,h=>by rw [Pe] at h ⊢; exact h
 | e::es,m,h=>by
  rw [Pe] at h ⊢
  obtain ⟨k,x,t,a,b,c,d⟩:=h
  exact ⟨k,x,t,a,b,lh.up l c,Pe.up l d⟩
theorem je.up {es:List MapEntry} {c:Nat} {m:List (κ×β)} (h:je μ es c m) (l:ga μ na):je na es c m:=⟨h.df.up l,h.lt,h.inc⟩
theorem Pe.keys:∀ {es:List MapEntry} {m:List (κ×β)},Pe μ es m→∀ e ∈ es,Lj (tb.Ce (κ:=κ)) e.key
 | [],m,_,e,he=>by cases he
 | e::es,m,h,a,he=>by
  rw [Pe] at h
  obtain ⟨k,x,t,d,b,f,c⟩:=h
  rcases List.mem_cons.1 he with rfl | he
  ·rw [b]; exact tb.af k
  ·exact Pe.keys c a he
theorem Pe.len:∀ {es:List MapEntry} {m:List (κ×β)},Pe μ es m→es.length=m.length
 | [],m,h=>by rw [Pe] at h; simp [h]
 | e::es,m,h=>by
  rw [Pe] at h
  obtain ⟨k,x,t,rfl,b,c,a⟩:=h
  simp [Pe.len a]
def Gk (df:Value):List MapEntry→Option (Nat×Value)
 | []=>none
 | e::es=>if Aj df e.key then some (0,e.val) else (Gk df es).map fun p=>(p.1+1,p.2)
theorem bB (df:Value):∀ (es:List MapEntry) (i:Nat),(((es.zipIdx i).find? fun e=>Aj df e.1.key).map fun e=>(e.2,e.1.val))=(Gk df es).map fun p=>(p.1+i,p.2)
 | [],i=>rfl
 | e::es,i=>by
  rw [List.zipIdx_cons,List.find?_cons,Gk]
  cases h:Aj df e.key with
  | true=>simp
  | false =>
   simp only [Bool.false_eq_true,if_false]
   rw [bB df es (i+1),Option.map_map]
   congr 1
   funext p
   simp; omega
theorem Av (es:List MapEntry) (df:Value):Nl es df=Gk df es:=by
 unfold Nl
 rw [bB]
 cases Gk df es <;> simp
theorem Pe.look:∀ {es:List MapEntry} {m:List (κ×β)},Pe μ es m→∀ k:κ,(match Gk (tb.key k) es with | none=>vb m k=none | some p=>∃ x,vb m k=some x∧lh.cj μ p.2 x)
 | [],m,h,k=>by rw [Pe] at h; subst h; rfl
 | e::es,m,h,k=>by
  rw [Pe] at h
  obtain ⟨d,x,t,rfl,f,g,i⟩:=h
  rw [Gk,vb,f,tb.eq]
  have a:=Pe.look i k
  by_cases b:k=d
  ·subst b; simp; exact g
  ·rw [if_neg (by simpa using b),if_neg (fun e=>b e.symm)]
   cases c:Gk (tb.key k) es with
   | none=>rw [c] at a; exact a
   | some p=>rw [c] at a; exact a
theorem Pe.get {es:List MapEntry} {m:List (κ×β)} (h:Pe μ es m) (k:κ) {z:Value} {zx:β} (b:lh.cj μ z zx):lh.cj μ (gl es (tb.key k) z) ((vb m k).getD zx):=by
 have:=h.look k
 unfold gl
 rw [Av]
 cases a:Gk (tb.key k) es with
 | none=>rw [a] at this; simp only at this; rw [this]; exact b
 | some p=>rw [a] at this; obtain ⟨x,c,d⟩:=this; rw [c]; exact d
theorem Pe.has {es:List MapEntry} {m:List (κ×β)} (h:Pe μ es m) (k:κ):mq es (tb.key k)=(vb m k).isSome:=by
 have:=h.look k
 unfold mq
 rw [Av]
 cases a:Gk (tb.key k) es with
 | none=>rw [a] at this; simp only at this; rw [this]; rfl
 | some p=>rw [a] at this; obtain ⟨x,b,c⟩:=this; rw [b]; rfl
theorem Pe.put:∀ {es:List MapEntry} {m:List (κ×β)},Pe μ es m→∀ (k:κ) {v:Value} {x:β},lh.cj μ v x→∀ c,Pe μ (match Gk (tb.key k) es with | some (i,_)=>es.modify i fun e=>{ e with key:=tb.key k,val:=v } | none=>es++[{ key:=tb.key k,val:=v,born:=c }]) (cc m k x)
 | [],m,h,k,v,x,a,c=>by
  rw [Pe] at h; subst h
  exact ⟨k,x,[],rfl,rfl,a,rfl⟩
 | e::es,m,h,k,v,x,a,c=>by
  rw [Pe] at h
  obtain ⟨d,j,t,rfl,f,l,n⟩:=h
  rw [Gk,cc,f,tb.eq]
  have b:=Pe.put n k a c
  by_cases g:k=d
  ·subst g
   simp
   exact ⟨k,x,t,rfl,rfl,a,n⟩
  ·rw [if_neg (by simpa using g),if_neg (fun e=>g e.symm)]
   cases o:Gk (tb.key k) es with
   | none=>rw [o] at b; exact ⟨d,j,_,rfl,f,l,b⟩
   | some p=>rw [o] at b; exact ⟨d,j,_,rfl,f,l,b⟩
theorem je.put {es:List MapEntry} {c:Nat} {m:List (κ×β)} (h:je μ es c m) (k:κ) {v:Value} {x:β} (n:lh.cj μ v x):je μ (putAt es c (tb.key k) v) (Rn es c (tb.key k)) (cc m k x):=by
 have d:=h.df.put k n c
 have sa:∀ i,(es.modify i fun e=>{ e with key:=tb.key k,val:=v }).map (·.born)=es.map (·.born):=by
  intro i
  refine List.ext_getElem (by simp) fun j w y=>?_
  simp only [List.getElem_map,List.getElem_modify]
  split <;> rfl
 have o:∀ l:List MapEntry,l.map (·.born)=es.map (·.born)→∀ e ∈ l,e.born<c:=fun l qa e he=>by
  have hm:e.born ∈ es.map (·.born):=qa ▸ List.mem_map_of_mem he
  obtain ⟨q,r,f⟩:=List.mem_map.1 hm
  rw [← f]; exact h.lt q r
 have s:∀ l:List MapEntry,l.map (·.born)=es.map (·.born)→l.Pairwise fun a b=>a.born<b.born:=fun l qa=>by
  have:(es.map (·.born)).Pairwise (·<·):=List.pairwise_map.2 h.inc
  rw [← qa] at this
  exact List.pairwise_map.1 this
 unfold putAt Rn
 rw [Av]
 cases g:Gk (tb.key k) es with
 | some p =>
  obtain ⟨i,u⟩:=p
  rw [g] at d
  exact ⟨d,o _ (sa i),s _ (sa i)⟩
 | none =>
  rw [g] at d
  refine ⟨d,fun e he=>?_,?_⟩
  ·rcases List.mem_append.1 he with he | he
   ·exact Nat.lt_succ_of_lt (h.lt e he)
   ·simp at he; subst he; exact Nat.lt_succ_self _
  ·rw [List.pairwise_append]
   refine ⟨h.inc,by simp,fun a t b f=>?_⟩
   simp at f; subst f; exact h.lt a t
theorem je.nil {c:Nat}:je (κ:=κ) (β:=β) μ [] c []:=⟨rfl,by simp,by simp⟩
def rf (μ:M) (b:Nat) (m:List (κ×β)):Prop:=∃ es c,(∀ w,μ w→w.heap[b]?=some (.map ⟨es⟩ c))∧je μ es c m
theorem rf.up {b:Nat} {m:List (κ×β)} (h:rf μ b m) (l:ga μ na):rf na b m:=by
 obtain ⟨es,c,a,d⟩:=h
 exact ⟨es,c,fun w hw=>a w (l w hw),d.up l⟩
theorem _root_.Go.bc.Sep.ym {b c:Nat} {es:List MapEntry} {m:List (κ×β)} (h:ka μ J w (.map b es c::rs)) (hm:je μ es c m):∃ na,ga μ na∧rf na b m∧ka na J w rs :=
 ⟨_,fun _ hw=>hw.1,⟨es,c,fun _ hw=>hw.2,hm.up fun _ hw=>hw.1⟩,Sep.Ew (B:=fun w=>w.heap[b]?=some (.map ⟨es⟩ c)) h fun _ hw=>hw⟩
theorem cB {x y:Operand} {af aa:TypeId} {z:Value} {b c:Nat} {es:List MapEntry} {m:List (κ×β)} {k:κ} {zx:β} (a:P.underlying T=some (.map af aa)) (d:P.underlying af=some (tb.Ce (κ:=κ))) (e:wb fr x (.map (some b))) (f:wb fr y (tb.key k))
  (i:∀ w,(zeroValue aa).run P w=.ok z w) (j:lh.cj μ z zx) (l:w.heap[b]?=some (.map ⟨es⟩ c)) (he:je μ es c m)
  (h:∀ v,lh.cj μ v ((vb m k).getD zx)→Kg fr dst (.tuple #[v,.bool (vb m k).isSome]) fun Ca=>K Ca ds w):Zd P (Oper.mk dst (.lookup T x y true) ty pos after g) fr ds w K Q:=by
 obtain ⟨Ca,ya⟩:=jh fr dst (.tuple #[gl es (tb.key k) z,.bool (mq es (tb.key k))])
 refine AA a d e f (tb.af k) i l he.df.keys ya ?_
 rw [he.df.has k] at ya
 exact h _ (he.df.get k j) Ca ya
theorem gk {x y:Operand} {af aa:TypeId} {z:Value} {b c:Nat} {es:List MapEntry} {m:List (κ×β)} {k:κ} {zx:β} (a:P.underlying T=some (.map af aa)) (d:P.underlying af=some (tb.Ce (κ:=κ))) (e:wb fr x (.map (some b))) (f:wb fr y (tb.key k))
  (i:∀ w,(zeroValue aa).run P w=.ok z w) (j:lh.cj μ z zx) (l:w.heap[b]?=some (.map ⟨es⟩ c)) (he:je μ es c m)
  (h:∀ v,lh.cj μ v ((vb m k).getD zx)→Kg fr dst v fun Ca=>K Ca ds w):Zd P (Oper.mk dst (.lookup T x y false) ty pos after g) fr ds w K Q:=by
 obtain ⟨Ca,ya⟩:=jh fr dst (gl es (tb.key k) z)
 refine aB a d e f (tb.af k) i l he.df.keys ya ?_
 exact h _ (he.df.get k j) Ca ya
theorem Pe.mC {α:Type} [cb α] [lh α] (hrv:∀ (v:Value) (x:α),lh.cj μ v x→eo μ v x) {es:List MapEntry} {m:List (κ×α)} (h:Pe μ es m) (k:κ):uh μ (gl es (tb.key k) (.pointer none)) (vb m k):=by
 have:=h.look k
 unfold gl
 rw [Av]
 cases a:Gk (tb.key k) es with
 | none=>rw [a] at this; simp only at this; rw [this]; rfl
 | some p=>rw [a] at this; obtain ⟨x,b,c⟩:=this; rw [b]; exact hrv _ _ c
theorem BA {α:Type} [cb α] [lh α] (hrv:∀ (v:Value) (x:α),lh.cj μ v x→eo μ v x) {x y:Operand} {af aa:TypeId} {b c:Nat} {es:List MapEntry} {m:List (κ×α)} {k:κ} (a:P.underlying T=some (.map af aa)) (d:P.underlying af=some (tb.Ce (κ:=κ))) (e:wb fr x (.map (some b))) (f:wb fr y (tb.key k))
  (i:∀ w,(zeroValue aa).run P w=.ok (.pointer none) w) (j:w.heap[b]?=some (.map ⟨es⟩ c)) (he:je μ es c m)
  (h:∀ v,uh μ v (vb m k)→Kg fr dst (.tuple #[v,.bool (vb m k).isSome]) fun Ca=>K Ca ds w):Zd P (Oper.mk dst (.lookup T x y true) ty pos after g) fr ds w K Q:=by
 obtain ⟨Ca,ya⟩:=jh fr dst (.tuple #[gl es (tb.key k) (.pointer none),.bool (mq es (tb.key k))])
 refine AA a d e f (tb.af k) i j he.df.keys ya ?_
 rw [he.df.has k] at ya
 exact h _ (he.df.mC hrv k) Ca ya
theorem zt {α:Type} [cb α] [lh α] (hrv:∀ (v:Value) (x:α),lh.cj μ v x→eo μ v x) {x y:Operand} {af aa:TypeId} {b c:Nat} {es:List MapEntry} {m:List (κ×α)} {k:κ} (a:P.underlying T=some (.map af aa)) (d:P.underlying af=some (tb.Ce (κ:=κ))) (e:wb fr x (.map (some b))) (f:wb fr y (tb.key k))
  (i:∀ w,(zeroValue aa).run P w=.ok (.pointer none) w) (j:w.heap[b]?=some (.map ⟨es⟩ c)) (he:je μ es c m)
  (h:∀ v,uh μ v (vb m k)→Kg fr dst v fun Ca=>K Ca ds w):Zd P (Oper.mk dst (.lookup T x y false) ty pos after g) fr ds w K Q:=by
 obtain ⟨Ca,ya⟩:=jh fr dst (gl es (tb.key k) (.pointer none))
 refine aB a d e f (tb.af k) i j he.df.keys ya ?_
 exact h _ (he.df.mC hrv k) Ca ya
theorem cu {aa:TypeId} {z:Value} (h:(P.info? aa).map (fun i=>i.zero)=some (some z)):∀ w,(zeroValue aa).run P w=.ok z w:=fun w=>by
 cases a:P.info? aa with
 | none=>rw [a] at h; cases h
 | some i =>
  rw [a] at h
  simp only [Option.map_some,Option.some.injEq] at h
  simp [zeroValue,typeInfo,a,h]
theorem gq {x y z:Operand} {af aa:TypeId} {v:Value} {b c k:Nat} {es:List MapEntry} {kk:κ} {m:List (κ×β)} {xx:β} (d:P.underlying T=some (.map af aa)) (e:P.underlying af=some (tb.Ce (κ:=κ))) (f:wb fr x (.map (some b))) (i:wb fr y (tb.key kk)) (j:wb fr z v) (l:lh.cj μ v xx)
  (n:ka μ J w rs) (qa:hc rs k (.map b es c)) (he:je μ es c m)
  (ya:hf fr dst undef Ca) (h:∀ a tc w' sc,je μ a tc (cc m kk xx)→Ac rs k (.map b a tc) sc→ka μ J w' sc→K Ca ds w'):Zd P (Oper.mk dst (.mapUpdate T x y z) ty pos after g) fr ds w K Q :=
 FB d e f i (tb.af kk) j n qa he.df.keys ya fun w' sc=>h _ _ w' sc (he.put kk l)
theorem Ph {x y z:Operand} {af aa:TypeId} {v:Value} {b c k:Nat} {es:List MapEntry} {kk:κ} {m:List (κ×β)} {xx:β} (d:P.underlying T=some (.map af aa)) (e:P.underlying af=some (tb.Ce (κ:=κ))) (f:wb fr x (.map (some b))) (i:wb fr y (tb.key kk)) (j:wb fr z v) (l:lh.cj μ v xx)
  (n:ka μ J w rs) (qa:hc rs k (.map b es c)) (he:je μ es c m)
  (ya:hf fr dst undef Ca) (h:∀ a tc w' sc,je μ a tc (cc m kk xx)→Ac rs k (.map b a tc) sc→ka μ J w' sc→K Ca ds w'):Zd P (Oper.mk dst (.insert T x y z) ty pos after g) fr ds w K Q :=
 ⟨fun o p=>(gq (dst:=dst) (ty:=ty) (pos:=pos) (after:=after) (g:=g) d e f i j l n qa he ya h).out o p⟩
theorem GB {x:Operand} {af aa:TypeId} {b c:Nat} {es:List MapEntry} {m:List (κ×β)} (a:P.underlying T=some (.map af aa)) (d:wb fr x (.map (some b))) (e:w.heap[b]?=some (.map ⟨es⟩ c)) (he:je μ es c m)
  (f:hf fr dst (.int .i64 m.length) Ca) (h:K Ca ds w):Zd P (Oper.mk dst (.call { callee:=.builtin .len,args:=#[x],argTypes:=#[T] }) ty pos after g) fr ds w K Q:=by
 refine ig (w':=w) ?_ f h
 have:=he.df.len
 simp [execOp,resolve,invoke,builtin,Builtin.len_,goInt,d ds,run_underlying a,getObj,Sem.run,e,Result.andThen,this]
end
end Go.Dc
namespace Go.bc
abbrev kh (m:List tb):List tb:=.k::m
abbrev Sc (s:Nat) (m:List tb):List tb:=.o s::m
theorem Ee {m:List tb} {a0:Value} {l Ia:List Value} (h:qe m l Ia):qe (kh m) (a0::l) (a0::Ia):=(.k h)
theorem lb {m:List tb} {s:Nat} {a0 a:Value} {l Ia:List Value} (h:qe m l Ia):qe (Sc s m) (a0::l) (a::Ia):=(.o h)
theorem zh {t:Nat→Value} {m:List tb} {a0:Value} {l Ia:List Value} (h:Be t m l Ia):Be t (kh m) (a0::l) (a0::Ia):=(mk h)
theorem Xc {t:Nat→Value} {m:List tb} {s:Nat} {a0:Value} {l Ia:List Value} (h:Be t m l Ia):Be t (Sc s m) (a0::l) (t s::Ia):=(fc h)
abbrev vf (m:List tb):List tb:=.k::.k::m
abbrev xf (s:Nat) (m:List tb):List tb:=.o s::.o (s+1)::m
theorem Yc {m:List tb} {a0 xa:Value} {l Ia:List Value} (h:qe m l Ia):qe (vf m) (a0::xa::l) (a0::xa::Ia):=(.k (.k h))
theorem Zc {m:List tb} {s:Nat} {a0 xa a U:Value} {l Ia:List Value} (h:qe m l Ia):qe (xf s m) (a0::xa::l) (a::U::Ia):=(.o (.o h))
theorem Jf {t:Nat→Value} {m:List tb} {a0 xa:Value} {l Ia:List Value} (h:Be t m l Ia):Be t (vf m) (a0::xa::l) (a0::xa::Ia):=(mk (mk h))
theorem Kf {t:Nat→Value} {m:List tb} {s:Nat} {a0 xa:Value} {l Ia:List Value} (h:Be t m l Ia):Be t (xf s m) (a0::xa::l) (t s::t (s+1)::Ia):=(fc (fc h))
abbrev kg (m:List tb):List tb:=.k::.k::.k::m
abbrev Yg (s:Nat) (m:List tb):List tb:=.o s::.o (s+1)::.o (s+2)::m
theorem Md {m:List tb} {a0 xa a2:Value} {l Ia:List Value} (h:qe m l Ia):qe (kg m) (a0::xa::a2::l) (a0::xa::a2::Ia):=(.k (.k (.k h)))
theorem ue {m:List tb} {s:Nat} {a0 xa a2 a U b:Value} {l Ia:List Value} (h:qe m l Ia):qe (Yg s m) (a0::xa::a2::l) (a::U::b::Ia):=(.o (.o (.o h)))
theorem sg {t:Nat→Value} {m:List tb} {a0 xa a2:Value} {l Ia:List Value} (h:Be t m l Ia):Be t (kg m) (a0::xa::a2::l) (a0::xa::a2::Ia):=(mk (mk (mk h)))
theorem qh {t:Nat→Value} {m:List tb} {s:Nat} {a0 xa a2:Value} {l Ia:List Value} (h:Be t m l Ia):Be t (Yg s m) (a0::xa::a2::l) (t s::t (s+1)::t (s+2)::Ia):=(fc (fc (fc h)))
abbrev tf (m:List tb):List tb:=.k::.k::.k::.k::m
abbrev Ih (s:Nat) (m:List tb):List tb:=.o s::.o (s+1)::.o (s+2)::.o (s+3)::m
theorem gd {m:List tb} {a0 xa a2 a3:Value} {l Ia:List Value} (h:qe m l Ia):qe (tf m) (a0::xa::a2::a3::l) (a0::xa::a2::a3::Ia):=(.k (.k (.k (.k h))))
theorem pf {m:List tb} {s:Nat} {a0 xa a2 a3 a U b nb:Value} {l Ia:List Value} (h:qe m l Ia):qe (Ih s m) (a0::xa::a2::a3::l) (a::U::b::nb::Ia):=(.o (.o (.o (.o h))))
theorem Ff {t:Nat→Value} {m:List tb} {a0 xa a2 a3:Value} {l Ia:List Value} (h:Be t m l Ia):Be t (tf m) (a0::xa::a2::a3::l) (a0::xa::a2::a3::Ia):=(mk (mk (mk (mk h))))
theorem ai {t:Nat→Value} {m:List tb} {s:Nat} {a0 xa a2 a3:Value} {l Ia:List Value} (h:Be t m l Ia):Be t (Ih s m) (a0::xa::a2::a3::l) (t s::t (s+1)::t (s+2)::t (s+3)::Ia):=(fc (fc (fc (fc h))))
abbrev ng (m:List tb):List tb:=.k::.k::.k::.k::.k::m
abbrev Hk (s:Nat) (m:List tb):List tb:=.o s::.o (s+1)::.o (s+2)::.o (s+3)::.o (s+4)::m
theorem ie {m:List tb} {a0 xa a2 a3 a4:Value} {l Ia:List Value} (h:qe m l Ia):qe (ng m) (a0::xa::a2::a3::a4::l) (a0::xa::a2::a3::a4::Ia):=(.k (.k (.k (.k (.k h)))))
theorem Ah {m:List tb} {s:Nat} {a0 xa a2 a3 a4 a U b nb c:Value} {l Ia:List Value} (h:qe m l Ia):qe (Hk s m) (a0::xa::a2::a3::a4::l) (a::U::b::nb::c::Ia):=(.o (.o (.o (.o (.o h)))))
theorem Ag {t:Nat→Value} {m:List tb} {a0 xa a2 a3 a4:Value} {l Ia:List Value} (h:Be t m l Ia):Be t (ng m) (a0::xa::a2::a3::a4::l) (a0::xa::a2::a3::a4::Ia):=(mk (mk (mk (mk (mk h)))))
theorem Ql {t:Nat→Value} {m:List tb} {s:Nat} {a0 xa a2 a3 a4:Value} {l Ia:List Value} (h:Be t m l Ia):Be t (Hk s m) (a0::xa::a2::a3::a4::l) (t s::t (s+1)::t (s+2)::t (s+3)::t (s+4)::Ia):=(fc (fc (fc (fc (fc h)))))
abbrev Og (m:List tb):List tb:=.k::.k::.k::.k::.k::.k::m
abbrev ml (s:Nat) (m:List tb):List tb:=.o s::.o (s+1)::.o (s+2)::.o (s+3)::.o (s+4)::.o (s+5)::m
theorem ye {m:List tb} {a0 xa a2 a3 a4 a5:Value} {l Ia:List Value} (h:qe m l Ia):qe (Og m) (a0::xa::a2::a3::a4::a5::l) (a0::xa::a2::a3::a4::a5::Ia):=(.k (.k (.k (.k (.k (.k h))))))
theorem di {m:List tb} {s:Nat} {a0 xa a2 a3 a4 a5 a U b nb c ef:Value} {l Ia:List Value} (h:qe m l Ia):qe (ml s m) (a0::xa::a2::a3::a4::a5::l) (a::U::b::nb::c::ef::Ia):=(.o (.o (.o (.o (.o (.o h))))))
theorem Zg {t:Nat→Value} {m:List tb} {a0 xa a2 a3 a4 a5:Value} {l Ia:List Value} (h:Be t m l Ia):Be t (Og m) (a0::xa::a2::a3::a4::a5::l) (a0::xa::a2::a3::a4::a5::Ia):=(mk (mk (mk (mk (mk (mk h))))))
theorem Em {t:Nat→Value} {m:List tb} {s:Nat} {a0 xa a2 a3 a4 a5:Value} {l Ia:List Value} (h:Be t m l Ia):Be t (ml s m) (a0::xa::a2::a3::a4::a5::l) (t s::t (s+1)::t (s+2)::t (s+3)::t (s+4)::t (s+5)::Ia):=(fc (fc (fc (fc (fc (fc h))))))
abbrev rh (m:List tb):List tb:=.k::.k::.k::.k::.k::.k::.k::m
abbrev Nj (s:Nat) (m:List tb):List tb:=.o s::.o (s+1)::.o (s+2)::.o (s+3)::.o (s+4)::.o (s+5)::.o (s+6)::m
theorem cf {m:List tb} {a0 xa a2 a3 a4 a5 Tb:Value} {l Ia:List Value} (h:qe m l Ia):qe (rh m) (a0::xa::a2::a3::a4::a5::Tb::l) (a0::xa::a2::a3::a4::a5::Tb::Ia):=(.k (.k (.k (.k (.k (.k (.k h)))))))
theorem Cg {m:List tb} {s:Nat} {a0 xa a2 a3 a4 a5 Tb a U b nb c ef dh:Value} {l Ia:List Value} (h:qe m l Ia):qe (Nj s m) (a0::xa::a2::a3::a4::a5::Tb::l) (a::U::b::nb::c::ef::dh::Ia):=(.o (.o (.o (.o (.o (.o (.o h)))))))
theorem Jh {t:Nat→Value} {m:List tb} {a0 xa a2 a3 a4 a5 Tb:Value} {l Ia:List Value} (h:Be t m l Ia):Be t (rh m) (a0::xa::a2::a3::a4::a5::Tb::l) (a0::xa::a2::a3::a4::a5::Tb::Ia):=(mk (mk (mk (mk (mk (mk (mk h)))))))
theorem Ik {t:Nat→Value} {m:List tb} {s:Nat} {a0 xa a2 a3 a4 a5 Tb:Value} {l Ia:List Value} (h:Be t m l Ia):Be t (Nj s m) (a0::xa::a2::a3::a4::a5::Tb::l) (t s::t (s+1)::t (s+2)::t (s+3)::t (s+4)::t (s+5)::t (s+6)::Ia):=(fc (fc (fc (fc (fc (fc (fc h)))))))
abbrev Kh (m:List tb):List tb:=.k::.k::.k::.k::.k::.k::.k::.k::m
abbrev ei (s:Nat) (m:List tb):List tb:=.o s::.o (s+1)::.o (s+2)::.o (s+3)::.o (s+4)::.o (s+5)::.o (s+6)::.o (s+7)::m
theorem lf {m:List tb} {a0 xa a2 a3 a4 a5 Tb ic:Value} {l Ia:List Value} (h:qe m l Ia):qe (Kh m) (a0::xa::a2::a3::a4::a5::Tb::ic::l) (a0::xa::a2::a3::a4::a5::Tb::ic::Ia):=(.k (.k (.k (.k (.k (.k (.k (.k h))))))))
theorem ag {m:List tb} {s:Nat} {a0 xa a2 a3 a4 a5 Tb ic a U b nb c ef dh Le:Value} {l Ia:List Value} (h:qe m l Ia):qe (ei s m) (a0::xa::a2::a3::a4::a5::Tb::ic::l) (a::U::b::nb::c::ef::dh::Le::Ia):=(.o (.o (.o (.o (.o (.o (.o (.o h))))))))
theorem fi {t:Nat→Value} {m:List tb} {a0 xa a2 a3 a4 a5 Tb ic:Value} {l Ia:List Value} (h:Be t m l Ia):Be t (Kh m) (a0::xa::a2::a3::a4::a5::Tb::ic::l) (a0::xa::a2::a3::a4::a5::Tb::ic::Ia):=(mk (mk (mk (mk (mk (mk (mk (mk h))))))))
theorem xi {t:Nat→Value} {m:List tb} {s:Nat} {a0 xa a2 a3 a4 a5 Tb ic:Value} {l Ia:List Value} (h:Be t m l Ia):Be t (ei s m) (a0::xa::a2::a3::a4::a5::Tb::ic::l) (t s::t (s+1)::t (s+2)::t (s+3)::t (s+4)::t (s+5)::t (s+6)::t (s+7)::Ia):=(fc (fc (fc (fc (fc (fc (fc (fc h))))))))
abbrev mi (m:List tb):List tb:=.k::.k::.k::.k::.k::.k::.k::.k::.k::m
abbrev Rl (s:Nat) (m:List tb):List tb:=.o s::.o (s+1)::.o (s+2)::.o (s+3)::.o (s+4)::.o (s+5)::.o (s+6)::.o (s+7)::.o (s+8)::m
theorem yf {m:List tb} {a0 xa a2 a3 a4 a5 Tb ic Db:Value} {l Ia:List Value} (h:qe m l Ia):qe (mi m) (a0::xa::a2::a3::a4::a5::Tb::ic::Db::l) (a0::xa::a2::a3::a4::a5::Tb::ic::Db::Ia):=(.k (.k (.k (.k (.k (.k (.k (.k (.k h)))))))))
theorem Uh {m:List tb} {s:Nat} {a0 xa a2 a3 a4 a5 Tb ic Db a U b nb c ef dh Le Ie:Value} {l Ia:List Value} (h:qe m l Ia):qe (Rl s m) (a0::xa::a2::a3::a4::a5::Tb::ic::Db::l) (a::U::b::nb::c::ef::dh::Le::Ie::Ia):=(.o (.o (.o (.o (.o (.o (.o (.o (.o h)))))))))
theorem Qi {t:Nat→Value} {m:List tb} {a0 xa a2 a3 a4 a5 Tb ic Db:Value} {l Ia:List Value} (h:Be t m l Ia):Be t (mi m) (a0::xa::a2::a3::a4::a5::Tb::ic::Db::l) (a0::xa::a2::a3::a4::a5::Tb::ic::Db::Ia):=(mk (mk (mk (mk (mk (mk (mk (mk (mk h)))))))))
theorem Ym {t:Nat→Value} {m:List tb} {s:Nat} {a0 xa a2 a3 a4 a5 Tb ic Db:Value} {l Ia:List Value} (h:Be t m l Ia):Be t (Rl s m) (a0::xa::a2::a3::a4::a5::Tb::ic::Db::l) (t s::t (s+1)::t (s+2)::t (s+3)::t (s+4)::t (s+5)::t (s+6)::t (s+7)::t (s+8)::Ia):=(fc (fc (fc (fc (fc (fc (fc (fc (fc h)))))))))
abbrev yd (m:List tb):List tb:=.k::.k::.k::.k::.k::.k::.k::.k::.k::.k::m
abbrev Rc (s:Nat) (m:List tb):List tb:=.o s::.o (s+1)::.o (s+2)::.o (s+3)::.o (s+4)::.o (s+5)::.o (s+6)::.o (s+7)::.o (s+8)::.o (s+9)::m
theorem xb {m:List tb} {a0 xa a2 a3 a4 a5 Tb ic Db a9:Value} {l Ia:List Value} (h:qe m l Ia):qe (yd m) (a0::xa::a2::a3::a4::a5::Tb::ic::Db::a9::l) (a0::xa::a2::a3::a4::a5::Tb::ic::Db::a9::Ia):=(.k (.k (.k (.k (.k (.k (.k (.k (.k (.k h))))))))))
theorem qb {m:List tb} {s:Nat} {a0 xa a2 a3 a4 a5 Tb ic Db a9 a U b nb c ef dh Le Ie Fe:Value} {l Ia:List Value} (h:qe m l Ia):qe (Rc s m) (a0::xa::a2::a3::a4::a5::Tb::ic::Db::a9::l) (a::U::b::nb::c::ef::dh::Le::Ie::Fe::Ia):=(.o (.o (.o (.o (.o (.o (.o (.o (.o (.o h))))))))))
theorem Dd {t:Nat→Value} {m:List tb} {a0 xa a2 a3 a4 a5 Tb ic Db a9:Value} {l Ia:List Value} (h:Be t m l Ia):Be t (yd m) (a0::xa::a2::a3::a4::a5::Tb::ic::Db::a9::l) (a0::xa::a2::a3::a4::a5::Tb::ic::Db::a9::Ia):=(mk (mk (mk (mk (mk (mk (mk (mk (mk (mk h))))))))))
theorem Wc {t:Nat→Value} {m:List tb} {s:Nat} {a0 xa a2 a3 a4 a5 Tb ic Db a9:Value} {l Ia:List Value} (h:Be t m l Ia):Be t (Rc s m) (a0::xa::a2::a3::a4::a5::Tb::ic::Db::a9::l) (t s::t (s+1)::t (s+2)::t (s+3)::t (s+4)::t (s+5)::t (s+6)::t (s+7)::t (s+8)::t (s+9)::Ia):=(fc (fc (fc (fc (fc (fc (fc (fc (fc (fc h))))))))))
abbrev qc (m:List tb):List tb:=.k::.k::.k::.k::.k::.k::.k::.k::.k::.k::.k::.k::.k::.k::.k::.k::.k::.k::.k::.k::m
abbrev Uf (s:Nat) (m:List tb):List tb:=.o s::.o (s+1)::.o (s+2)::.o (s+3)::.o (s+4)::.o (s+5)::.o (s+6)::.o (s+7)::.o (s+8)::.o (s+9)::.o (s+10)::.o (s+11)::.o (s+12)::.o (s+13)::.o (s+14)::.o (s+15)::.o (s+16)::.o (s+17)::.o (s+18)::.o (s+19)::m
theorem Xa {m:List tb} {a0 xa a2 a3 a4 a5 Tb ic Db a9 od xc a12 Vd uc Wd a Jc b c:Value} {l Ia:List Value} (h:qe m l Ia):qe (qc m) (a0::xa::a2::a3::a4::a5::Tb::ic::Db::a9::od::xc::a12::Vd::uc::Wd::a::Jc::b::c::l) (a0::xa::a2::a3::a4::a5::Tb::ic::Db::a9::od::xc::a12::Vd::uc::Wd::a::Jc::b::c::Ia):=(.k (.k (.k (.k (.k (.k (.k (.k (.k (.k (.k (.k (.k (.k (.k (.k (.k (.k (.k (.k h))))))))))))))))))))
theorem zc {m:List tb} {s:Nat} {a0 xa a2 a3 a4 a5 Tb ic Db a9 od xc a12 Vd uc Wd a Jc b c d U e nb f ef dh Le Ie Fe Ri g Qc Lg i j k n p q:Value} {l Ia:List Value} (h:qe m l Ia):qe (Uf s m) (a0::xa::a2::a3::a4::a5::Tb::ic::Db::a9::od::xc::a12::Vd::uc::Wd::a::Jc::b::c::l) (d::U::e::nb::f::ef::dh::Le::Ie::Fe::Ri::g::Qc::Lg::i::j::k::n::p::q::Ia):=(.o (.o (.o (.o (.o (.o (.o (.o (.o (.o (.o (.o (.o (.o (.o (.o (.o (.o (.o (.o h))))))))))))))))))))
theorem vc {t:Nat→Value} {m:List tb} {a0 xa a2 a3 a4 a5 Tb ic Db a9 od xc a12 Vd uc Wd a Jc b c:Value} {l Ia:List Value} (h:Be t m l Ia):Be t (qc m) (a0::xa::a2::a3::a4::a5::Tb::ic::Db::a9::od::xc::a12::Vd::uc::Wd::a::Jc::b::c::l) (a0::xa::a2::a3::a4::a5::Tb::ic::Db::a9::od::xc::a12::Vd::uc::Wd::a::Jc::b::c::Ia):=(mk (mk (mk (mk (mk (mk (mk (mk (mk (mk (mk (mk (mk (mk (mk (mk (mk (mk (mk (mk h))))))))))))))))))))
theorem fg {t:Nat→Value} {m:List tb} {s:Nat} {a0 xa a2 a3 a4 a5 Tb ic Db a9 od xc a12 Vd uc Wd a Jc b c:Value} {l Ia:List Value} (h:Be t m l Ia):Be t (Uf s m) (a0::xa::a2::a3::a4::a5::Tb::ic::Db::a9::od::xc::a12::Vd::uc::Wd::a::Jc::b::c::l) (t s::t (s+1)::t (s+2)::t (s+3)::t (s+4)::t (s+5)::t (s+6)::t (s+7)::t (s+8)::t (s+9)::t (s+10)::t (s+11)::t (s+12)::t (s+13)::t (s+14)::t (s+15)::t (s+16)::t (s+17)::t (s+18)::t (s+19)::Ia):=(fc (fc (fc (fc (fc (fc (fc (fc (fc (fc (fc (fc (fc (fc (fc (fc (fc (fc (fc (fc h))))))))))))))))))))
abbrev Sd (m:List tb):List tb:=.k::.k::.k::.k::.k::.k::.k::.k::.k::.k::.k::.k::.k::.k::.k::.k::.k::.k::.k::.k::.k::.k::.k::.k::.k::.k::.k::.k::.k::.k::.k::.k::.k::.k::.k::.k::.k::.k::.k::.k::.k::.k::.k::.k::.k::.k::.k::.k::.k::.k::m
abbrev nk (s:Nat) (m:List tb):List tb:=.o s::.o (s+1)::.o (s+2)::.o (s+3)::.o (s+4)::.o (s+5)::.o (s+6)::.o (s+7)::.o (s+8)::.o (s+9)::.o (s+10)::.o (s+11)::.o (s+12)::.o (s+13)::.o (s+14)::.o (s+15)::.o (s+16)::.o (s+17)::.o (s+18)::.o (s+19)::.o (s+20)::.o (s+21)::.o (s+22)::.o (s+23)::.o (s+24)::.o (s+25)::.o (s+26)::.o (s+27)::.o (s+28)::.o (s+29)::.o (s+30)::.o (s+31)::.o (s+32)::.o (s+33)::.o (s+34)::.o (s+35)::.o (s+36)::.o (s+37)::.o (s+38)::.o (s+39)::.o (s+40)::.o (s+41)::.o (s+42)::.o (s+43)::.o (s+44)::.o (s+45)::.o (s+46)::.o (s+47)::.o (s+48)::.o (s+49)::m
theorem Yb {m:List tb} {a0 xa a2 a3 a4 a5 Tb ic Db a9 od xc a12 Vd uc Wd a Jc b c a20 a21 d e a24 f g i a28 j n a31 o p q r s a37 t u a40 v w x y z a46 A B a49:Value} {l Ia:List Value} (h:qe m l Ia):qe (Sd m) (a0::xa::a2::a3::a4::a5::Tb::ic::Db::a9::od::xc::a12::Vd::uc::Wd::a::Jc::b::c::a20::a21::d::e::a24::f::g::i::a28::j::n::a31::o::p::q::r::s::a37::t::u::a40::v::w::x::y::z::a46::A::B::a49::l) (a0::xa::a2::a3::a4::a5::Tb::ic::Db::a9::od::xc::a12::Vd::uc::Wd::a::Jc::b::c::a20::a21::d::e::a24::f::g::i::a28::j::n::a31::o::p::q::r::s::a37::t::u::a40::v::w::x::y::z::a46::A::B::a49::Ia):=(.k (.k (.k (.k (.k (.k (.k (.k (.k (.k (.k (.k (.k (.k (.k (.k (.k (.k (.k (.k (.k (.k (.k (.k (.k (.k (.k (.k (.k (.k (.k (.k (.k (.k (.k (.k (.k (.k (.k (.k (.k (.k (.k (.k (.k (.k (.k (.k (.k (.k h))))))))))))))))))))))))))))))))))))))))))))))))))
theorem Vf {m:List tb} {s:Nat} {a0 xa a2 a3 a4 a5 Tb ic Db a9 od xc a12 Vd uc Wd a Jc b c a20 a21 d e a24 f g i a28 j k a31 n p q r t a37 u v a40 w x y z A a46 B C a49 D U E nb F ef dh Le Ie Fe Ri G Qc Lg H K L M N P Q R S T V W X Y Z gc lc rc fd id md rd wd Fd Id be ce ge he le ne Ne of wf If dg:Value} {l Ia:List Value} (h:qe m l Ia):qe (nk s m) (a0::xa::a2::a3::a4::a5::Tb::ic::Db::a9::od::xc::a12::Vd::uc::Wd::a::Jc::b::c::a20::a21::d::e::a24::f::g::i::a28::j::k::a31::n::p::q::r::t::a37::u::v::a40::w::x::y::z::A::a46::B::C::a49::l) (D::U::E::nb::F::ef::dh::Le::Ie::Fe::Ri::G::Qc::Lg::H::K::L::M::N::P::Q::R::S::T::V::W::X::Y::Z::gc::lc::rc::fd::id::md::rd::wd::Fd::Id::be::ce::ge::he::le::ne::Ne::of::wf::If::dg::Ia):=(.o (.o (.o (.o (.o (.o (.o (.o (.o (.o (.o (.o (.o (.o (.o (.o (.o (.o (.o (.o (.o (.o (.o (.o (.o (.o (.o (.o (.o (.o (.o (.o (.o (.o (.o (.o (.o (.o (.o (.o (.o (.o (.o (.o (.o (.o (.o (.o (.o (.o h))))))))))))))))))))))))))))))))))))))))))))))))))
theorem Ud {t:Nat→Value} {m:List tb} {a0 xa a2 a3 a4 a5 Tb ic Db a9 od xc a12 Vd uc Wd a Jc b c a20 a21 d e a24 f g i a28 j k a31 n o p q r a37 s u a40 v w x y z a46 A B a49:Value} {l Ia:List Value} (h:Be t m l Ia):Be t (Sd m) (a0::xa::a2::a3::a4::a5::Tb::ic::Db::a9::od::xc::a12::Vd::uc::Wd::a::Jc::b::c::a20::a21::d::e::a24::f::g::i::a28::j::k::a31::n::o::p::q::r::a37::s::u::a40::v::w::x::y::z::a46::A::B::a49::l) (a0::xa::a2::a3::a4::a5::Tb::ic::Db::a9::od::xc::a12::Vd::uc::Wd::a::Jc::b::c::a20::a21::d::e::a24::f::g::i::a28::j::k::a31::n::o::p::q::r::a37::s::u::a40::v::w::x::y::z::a46::A::B::a49::Ia):=(mk (mk (mk (mk (mk (mk (mk (mk (mk (mk (mk (mk (mk (mk (mk (mk (mk (mk (mk (mk (mk (mk (mk (mk (mk (mk (mk (mk (mk (mk (mk (mk (mk (mk (mk (mk (mk (mk (mk (mk (mk (mk (mk (mk (mk (mk (mk (mk (mk (mk h))))))))))))))))))))))))))))))))))))))))))))))))))
theorem kl {t:Nat→Value} {m:List tb} {s:Nat} {a0 xa a2 a3 a4 a5 Tb ic Db a9 od xc a12 Vd uc Wd a Jc b c a20 a21 d e a24 f g i a28 j k a31 n o p q r a37 u v a40 w x y z A a46 B C a49:Value} {l Ia:List Value} (h:Be t m l Ia):Be t (nk s m) (a0::xa::a2::a3::a4::a5::Tb::ic::Db::a9::od::xc::a12::Vd::uc::Wd::a::Jc::b::c::a20::a21::d::e::a24::f::g::i::a28::j::k::a31::n::o::p::q::r::a37::u::v::a40::w::x::y::z::A::a46::B::C::a49::l) (t s::t (s+1)::t (s+2)::t (s+3)::t (s+4)::t (s+5)::t (s+6)::t (s+7)::t (s+8)::t (s+9)::t (s+10)::t (s+11)::t (s+12)::t (s+13)::t (s+14)::t (s+15)::t (s+16)::t (s+17)::t (s+18)::t (s+19)::t (s+20)::t (s+21)::t (s+22)::t (s+23)::t (s+24)::t (s+25)::t (s+26)::t (s+27)::t (s+28)::t (s+29)::t (s+30)::t (s+31)::t (s+32)::t (s+33)::t (s+34)::t (s+35)::t (s+36)::t (s+37)::t (s+38)::t (s+39)::t (s+40)::t (s+41)::t (s+42)::t (s+43)::t (s+44)::t (s+45)::t (s+46)::t (s+47)::t (s+48)::t (s+49)::Ia):=(fc (fc (fc (fc (fc (fc (fc (fc (fc (fc (fc (fc (fc (fc (fc (fc (fc (fc (fc (fc (fc (fc (fc (fc (fc (fc (fc (fc (fc (fc (fc (fc (fc (fc (fc (fc (fc (fc (fc (fc (fc (fc (fc (fc (fc (fc (fc (fc (fc (fc h))))))))))))))))))))))))))))))))))))))))))))))))))
theorem Na {m:List tb} {v a:Value} {l Ia:List Value} (h:qe m l Ia):qe (.i v::m) (a::l) (v::Ia):=.i h
theorem ta {l:List Value}:qe [] l l:=.z
end Go.bc
namespace Go.bc
open Go.RowKit
section
variable {P:Program} {Q:Exit→Act→World→Prop} {ops:Array Oper} {fr Ca:List Value} {ds:List Deferred} {w:World}
theorem Ow (ops:Array Oper) (fr:List Value) (ds:List Deferred) (j:Nat):yielded ops (F fr ds).tmps j=match (ops[j]?).bind (·.dst) with | some s=>(match (F fr ds).eval (.tmp s) with | .bool b=>some b | _=>none) | none=>none:=by
 unfold yielded
 cases h:(ops[j]?).bind (·.dst) with
 | none=>simp
 | some s =>
  simp only [Option.bind_some,F,Act.eval]
  cases a:(⟨fr⟩:Array Value)[s]? with
  | none =>
   have:(⟨fr⟩:Array Value).getD s undef=undef:=by simp [Array.getD_eq_getD_getElem?,a]
   first
    | (simp [a,undef]; done)
    | (rw [this]; simp [undef])
  | some v =>
   have:(⟨fr⟩:Array Value).getD s undef=v:=by simp [Array.getD_eq_getD_getElem?,a]
   first
    | (simp [a]; done)
    | (rw [this]; cases v <;> rfl)
theorem wanted_put {o p:Oper} {fr:List Value} {ds ds':List Deferred} {g:List Value→List Value} (g3:∀ (y:Operand),(∀ e,p.dst=some e→hq y≠some e)→(F (g fr) ds).eval y=(F fr ds).eval y) (c:∀ e,p.dst=some e→(reads ops o).contains e=false) :
  Region.wanted o (yielded ops (F (g fr) ds').tmps)=Region.wanted o (yielded ops (F fr ds').tmps):=by
 have hb:(F (g fr) ds').tmps=(F (g fr) ds).tmps:=rfl
 have sa:(F fr ds').tmps=(F fr ds).tmps:=rfl
 rw [hb,sa]
 unfold Region.wanted
 cases d:o.guard with
 | none=>rfl
 | some f =>
  obtain ⟨j,b⟩:=f
  simp only
  have:yielded ops (F (g fr) ds).tmps j=yielded ops (F fr ds).tmps j:=by
   rw [Ow,Ow]
   cases h:(ops[j]?).bind (·.dst) with
   | none=>rfl
   | some s =>
    simp only
    rw [g3 (.tmp s) fun e he a=>by
     simp [hq] at a
     subst a
     have:=c s he
     unfold reads at this
     rw [d] at this
     simp [h] at this]
  first
   | rw [this]
   | simp [this]
theorem CA {o:Oper} {j d:Nat} {b re:Bool} (a:o.guard=some (j,b)) (c:(ops[j]?).bind (·.dst)=some d) (qa:hc fr d (.bool re)):Region.wanted o (yielded ops (F fr ds).tmps)=(re == b):=by
 unfold Region.wanted
 rw [a]
 simp only
 have:yielded ops (F fr ds).tmps j=some re:=by
  rw [Ow,c]
  simp only
  rw [aa qa ds]
 rw [this]
 cases b <;> cases re <;> rfl
theorem Gb {o:Oper} (a:o.guard=none):Region.wanted o (yielded ops (F fr ds).tmps)=true:=by simp [Region.wanted,a]
theorem Dx {o:Oper} {j d:Nat} {b:Bool} (a:o.guard=some (j,b)) (c:(ops[j]?).bind (·.dst)=some d) (qa:hc fr d (.bool b)):Region.wanted o (yielded ops (F fr ds).tmps)=true :=
 (CA a c qa).trans (by cases b <;> rfl)
end
end Go.bc
namespace Go.bc
open Go.RowKit
section
variable {P:Program} {Q:Exit→Act→World→Prop} {ops:Array Oper} {fr Ca:List Value} {ds:List Deferred} {w:World}
def waits (ops:Array Oper) (R S:List Nat) (i:Nat):Bool:=S.all fun j=>j == i || S.any fun k=>(Pl ops j).contains k && R.contains k
theorem Jl.later {R d:List Nat} (h:Jl ops R d) (m:R.Nodup) {i:Nat} {S:List Nat} (n:∀ j ∈ S,j=i∨∃ k ∈ S,k ∈ Pl ops j∧k ∈ R):∀ a c,d=a++i::c→i ∉ a→∀ j ∈ a,j ∉ S:=by
 induction h with
 | z=>intro a c h; simp at h
 | @s R d k p t r =>
  intro a c h o j b
  cases a with
  | nil=>cases b
  | cons e a =>
   simp only [List.cons_append,List.cons.injEq] at h
   obtain ⟨rfl,h⟩:=h
   have he:k ∉ S:=fun hm=>by
    rcases n k hm with rfl | ⟨q,f,g,l⟩
    ·exact o (by simp)
    ·exact fz p g l
   rcases List.mem_cons.1 b with rfl | b
   ·exact he
   ·refine r (m.erase k) (fun j b=>?_) a c h (fun hm=>o (by simp [hm])) j b
    rcases n j b with rfl | ⟨q,f,g,l⟩
    ·exact .inl rfl
    ·exact .inr ⟨q,f,g,(m.mem_erase_iff).2 ⟨fun e=>he (e ▸ f),l⟩⟩
end
end Go.bc
namespace Go.bc
open Go.RowKit
section
variable {P:Program} {Q:Exit→Act→World→Prop} {K:List Value→List Deferred→World→Prop} {fr Ca:List Value} {ds:List Deferred} {w:World}
variable {dst:Option Tmp} {ty:TypeId} {pos:String} {after:Array Edge} {g:Option (Nat×Bool)}
variable {S Jd:Nat→Prop} {J:World} {rs sc:List Wb} {A:World→Prop}
variable {T:TypeId} {d:TypeDesc} {Gf:Bool} {vd:List Value} {n m:Nat}
inductive ps (fr:List Value) (n:Nat):Nat→List (Nat×Operand)→List Value→Prop where
 | z {i:Nat}:ps fr n i [] []
 | s {i:Nat} {x:Operand} {v:Value} {cs rest:List Value} {xs:List (Nat×Operand)} (a:wb fr x v) (b:v.cells=⟨cs⟩) (c:cs.length=n) (t:ps fr n (i+1) xs rest):ps fr n i ((i,x)::xs) (cs++rest)
theorem ps.fill {i:Nat} {xs:List (Nat×Operand)} {cells:List Value} (h:ps fr n i xs cells):∀ a:List Value,a.length=i*n+cells.length →
  Instr.fill (fun i=>some (i*n,n)) ⟨a⟩ (xs.map fun p=>(p.1,(F fr ds).eval p.2))=some ⟨a.take (i*n)++cells⟩:=by
 induction h with
 | z=>intro a b; simp at b; simp [Instr.fill,← b]
 | @s i x v cs rest xs f g c t j =>
  intro a b
  simp only [List.length_append] at b
  have d:(i+1)*n=i*n+n:=by rw [Nat.add_mul,Nat.one_mul]
  simp only [List.map_cons,Instr.fill,f ds,g]
  have hb:¬ (((⟨cs⟩:Array Value).size≠n || i*n+(⟨cs⟩:Array Value).size > (⟨a⟩:Array Value).size)=true):=by simp [c,b]
  rw [if_neg hb]
  have k:=Ru cs (i*n) 0 a (by omega)
  have sa:(⟨cs⟩:Array Value).zipIdx.toList=cs.zipIdx 0:=by simp
  have e:(⟨cs⟩:Array Value).zipIdx.foldl (fun (cs:Array Value) (p:Value×Nat)=>cs.setIfInBounds (i*n+p.2) p.1) ⟨a⟩=⟨a.take (i*n+0)++cs++a.drop (i*n+0+cs.length)⟩:=by
   rw [← Array.foldl_toList,sa]; exact k
  first
   | rw [e]
   | (erw [e])
  rw [j _ (by simp [d,c,b]; omega)]
  congr 2
  rw [d,c,Nat.add_zero]
  have:(a.take (i*n)++cs).length=i*n+n:=by simp [c]; omega
  rw [← this,List.take_left,List.append_assoc]
theorem Zx {e:TypeId} {len:Nat} {xs:List (Nat×Operand)} {cells:List Value} (f:P.underlying T=some (.slice e)) (c:Lc P e Gf vd n m) (a:(decide (0<n) && decide (n≤1000) && decide (0<len) && decide (len≤1000))=true) (j:ps fr n 0 xs cells) (k:cells.length=len*n) (l:Sep S Jd J w rs A)
  (h:∀ b w',w.heap.size≤b→Sep S Jd J w' (.ba b e cells::rs) A→Kg fr dst (.slice (some ⟨b,0,none⟩) len len) fun Ca=>K Ca ds w'):Zd P (Oper.mk dst (.buildSlice T len ⟨xs⟩) ty pos after g) fr ds w K Q:=by
 obtain ⟨Ca,ya⟩:=jh fr dst (.slice (some ⟨w.heap.size,0,none⟩) len len)
 refine ig (v:=.slice (some ⟨w.heap.size,0,none⟩) len len) (w':=w.alloc (.cells ⟨cells⟩ e)) ?_ ya (h _ _ (Nat.le_refl _) (l.alloc rfl (heap_alloc_new w _)) Ca ya)
 obtain ⟨z,o,u⟩:=c.zero (w:=w)
 have q:=c.sizeOf (w:=w)
 simp only [Bool.and_eq_true,decide_eq_true_eq] at a
 have hmul:len*n≤1000*1000:=Nat.mul_le_mul a.2 a.1.1.2
 have r:¬ (len*n > 2 ^ 24):=by omega
 have s:¬ (len*n=0):=by
  have:=Nat.mul_pos a.1.2 a.1.1.1
  omega
 have qa:((⟨xs⟩:Array (Nat×Operand)).map fun (i,x)=>(i,(F fr ds).eval x)).toList=xs.map fun p=>(p.1,(F fr ds).eval p.2):=by simp
 have d:=j.fill (ds:=ds) ((Array.range (len*n)).map (z.cells[· % z.cells.size]!)).toList (by simp [k])
 simp only [execOp,Instr.buildSlice,Sem.run_bind,run_underlying f,Result.andThen_ok,q,if_neg r,if_neg s,o,Sem.run_pure,qa]
 have t:(⟨((Array.range (len*n)).map (z.cells[· % z.cells.size]!)).toList⟩:Array Value)=(Array.range (len*n)).map (z.cells[· % z.cells.size]!):=rfl
 rw [t] at d
 simp only [d]
 simp [newRow]
structure Hu (P:Program) (c:Code) (Q:Exit→Act→World→Prop) (n:Nat) (fr:List Value) (ds:List Deferred) (w:World):Prop where
 out:Code.rounds P c Q n (F fr ds) w
theorem Px {c:Code} (n:Nat) (h:Hu P c Q n fr ds w):He P (.loop c) Q fr ds w:=⟨wp_loop_rounds n h.out⟩
theorem Vm {c:Code} {n:Nat} (h:He P c (Exit.then (fun a w=>∃ fr ds,a=F fr ds∧Hu P c Q n fr ds w) Q) fr ds w):Hu P c Q (n+1) fr ds w:=⟨by
 rw [rounds_succ]
 refine wp_mono h.out fun e a w b=>?_
 cases e with
 | normal=>obtain ⟨fr,ds,rfl,h⟩:=b; exact h.out
 | exit id=>exact b
 | goto l=>exact b
 | ret=>exact b
 | panic d=>exact b
 | outgrown=>exact b⟩
theorem Ep {c:Code} {n:Nat} (h:Hu P c Q n fr ds w):Exit.then (fun a w=>∃ fr ds,a=F fr ds∧Hu P c Q n fr ds w) Q .normal (F fr ds) w:=⟨_,_,rfl,h⟩
theorem dB {f:Operand} {xs:List Operand} {tys:Array TypeId} {k:FuncId} {first cap vs:List Value} {R:Value→World→Prop} (b:yc P k) (c:wb fr f (.func (.func k) ⟨first⟩ ⟨cap⟩)) (d:Xm fr xs vs)
  (i:Sb P k (first++vs++cap) w R) (h:∀ v w',R v w'→Kg fr dst v fun Ca=>K Ca ds w'):Zd P (Oper.mk dst (.call { callee:=.value f,args:=⟨xs⟩,argTypes:=tys }) ty pos after g) fr ds w K Q:=by
 refine Nx (args:=first++vs++cap) ?_ i h
 have j:=c ds
 have l:=d ds
 have a:=b.out ⟨first++vs++cap⟩ w
 have e:(⟨first⟩:Array Value)++(⟨vs⟩:Array Value)++(⟨cap⟩:Array Value)=⟨first++vs++cap⟩:=by
  apply Array.ext'
  simp
 simp only [List.append_assoc] at a e ⊢
 simp [execOp,resolve,j,Deferred.ofValue,invoke,l]
 first
  | exact a
  | (simpa using a)
end
end Go.bc
namespace Go.Dc
open Go.bc Go.RowKit
section
variable {P:Program} {Q:Exit→Act→World→Prop} {K:List Value→List Deferred→World→Prop} {fr Ca:List Value} {ds:List Deferred} {w:World}
variable {dst:Option Tmp} {ty:TypeId} {pos:String} {after:Array Edge} {g:Option (Nat×Bool)}
variable {J:World} {rs sc:List Wb} {μ na:M}
variable {T:TypeId} {d:TypeDesc} {Gf:Bool} {vd:List Value} {n m:Nat}
def okV (R:Value→World→Prop):Ending→World→Prop
 | .returned v,w=>R v w
 | _,_=>False
def zp (P:Program) (fn:Func) (R:Value→World→Prop):Exit→Act→World→Prop
 | .panic _,_,_=>False
 | e,a,w=>bodyPostD P fn (okV R) e a w
theorem qs {f:FuncId} {fn:Func} {c:Code} {args frm:List Value} {R:Value→World→Prop} (d:P.funcs[f]?=some fn) (g:fn.body=some c)
  (i:args++List.replicate (fn.ntmps - args.length) undef=frm) (h:He P c (zp P fn R) frm [] w):Sb P f args w R:=by
 refine ⟨Calls.mono (calls_of_wp_defers (R:=okV R) d g ?_) fun e w he=>by cases e <;> exact he⟩
 subst i
 have sa:(⟨args⟩:Array Value)++Array.replicate (fn.ntmps - args.length) undef=⟨args++List.replicate (fn.ntmps - args.length) undef⟩:=by
  apply Array.ext'
  simp
 have h:=wp_mono h.out (Q':=bodyPostD P fn (okV R)) fun e a w b=>by
  cases e <;> first | exact b | exact (False.elim b)
 simpa [F,sa] using h
structure Kt (P:Program) (f:FuncId) (args:List Value) (w:World) (R:Value→World→Prop):Prop where
 out:∀ u,CallsD P f ⟨args⟩ u w fun e a w'=>a=u∧okV R e w'
theorem Qx {f:FuncId} {fn:Func} {c:Code} {args frm:List Value} {R:Value→World→Prop} (d:P.funcs[f]?=some fn) (g:fn.body=some c)
  (j:args++List.replicate (fn.ntmps - args.length) undef=frm) (h:He P c (Dp P fn R) frm [] w):Kt P f args w R:=by
 refine ⟨fun u=>callsD_of_wp d g ?_⟩
 subst j
 have sa:(⟨args⟩:Array Value)++Array.replicate (fn.ntmps - args.length) undef=⟨args++List.replicate (fn.ntmps - args.length) undef⟩:=by
  apply Array.ext'
  simp
 have h:=wp_mono h.out (Q':=bodyPost P fn (okV R)) fun e a w b=>by
  cases e with
  | normal=>exact b
  | ret=>exact b
  | panic k=>exact b
  | exit i=>exact b
  | goto l=>exact b
  | outgrown=>exact b
 simpa [F,sa] using h
theorem Bo {f:Operand} {xs:List Operand} {tys:Array TypeId} {k:FuncId} {cap vs:List Value} (a:wb fr f (.func (.func k) #[] ⟨cap⟩)) (b:Xm fr xs vs)
  (c:hf fr dst undef Ca) (h:K Ca (⟨.fn (.func k) ⟨cap⟩,⟨vs⟩⟩::ds) w):Zd P (Oper.mk dst (.defer { callee:=.value f,args:=⟨xs⟩,argTypes:=tys }) ty pos after g) fr ds w K Q:=by
 constructor
 intro l d
 have e:=a ds
 have i:=b ds
 have j:(execOp (F fr ds).eval (Oper.mk dst (.defer { callee:=.value f,args:=⟨xs⟩,argTypes:=tys }) ty pos after g)).run P w=.ok (.defer ⟨.fn (.func k) ⟨cap⟩,⟨vs⟩⟩) w:=by
  simp [execOp,resolve,e,Deferred.ofValue,i]
 unfold Oper.wp
 rw [j]
 have:=d _ _ _ h
 rw [← c _] at this
 simpa [Oper.upon,F,Act.put] using this
theorem mj {fn:Func} {R a:Value→World→Prop} {k:FuncId} {cap vs:List Value} (b:yc P k) (d:Kt P k (vs++cap) w a) (h:∀ v w',a v w'→zp P fn R .ret (F fr ds) w') :
  zp P fn R .ret (F fr (⟨.fn (.func k) ⟨cap⟩,⟨vs⟩⟩::ds)) w:=by
 refine ⟨by simp,.func k,⟨cap⟩,k,⟨vs++cap⟩,rfl,?_,?_⟩
 ·have:=b.out ⟨vs++cap⟩ w
  simp [invoke,this]
 ·refine (d.out .returning).mono fun e f w' he=>?_
  obtain ⟨rfl,he⟩:=he
  cases e with
  | returned v=>exact h v w' he
  | panicked c=>exact he.elim
  | outgrown=>exact he.elim
theorem vg {fn:Func} {R:Value→World→Prop} {a:List ResultVar} {vs:List Value} (b:fn.results=⟨a⟩) (c:Qa P fr w a vs) (h:R (Gs vs) w):zp P fn R .ret (F fr []) w :=
 ⟨_,ez b c,h⟩
theorem wi {fn:Func} {R:Value→World→Prop} {a:Act} (h:zp P fn R .ret a w):zp P fn R .normal a w:=h
def gb (ms:List (Nat×List MapEntry×Nat)):List Wb:=(ms.map fun m=>.map m.1 m.2.1 m.2.2).reverse
def Xb (ms:List (Nat×List MapEntry×Nat)):List Value:=ms.map fun m=>.map (some m.1)
variable {κ β:Type} [DecidableEq κ] [tb κ] [lh β]
def Bd (μ:M):List (Nat×List MapEntry×Nat)→List (List (κ×β))→Prop
 | [],Kd=>Kd=[]
 | m::ms,Kd=>∃ x t,Kd=x::t∧je μ m.2.1 m.2.2 x∧Bd μ ms t
theorem Bd.up (l:ga μ na):∀ {ms:List (Nat×List MapEntry×Nat)} {Kd:List (List (κ×β))},Bd μ ms Kd→Bd na ms Kd
 | [],Kd,h=>by rw [Bd] at h ⊢; exact h
 | m::ms,Kd,h=>by
  rw [Bd] at h ⊢
  obtain ⟨x,t,a,b,c⟩:=h
  exact ⟨x,t,a,b.up l,Bd.up l c⟩
theorem Bd.get:∀ {ms:List (Nat×List MapEntry×Nat)} {Kd:List (List (κ×β))} {i:Nat} {x:List (κ×β)},Bd μ ms Kd→Kd[i]?=some x→∃ b es c,ms[i]?=some (b,es,c)∧je μ es c x
 | [],Kd,i,x,h,a=>by rw [Bd] at h; subst h; simp at a
 | m::ms,Kd,i,x,h,a=>by
  rw [Bd] at h
  obtain ⟨y,t,rfl,d,e⟩:=h
  cases i with
  | zero=>simp at a; subst a; exact ⟨m.1,m.2.1,m.2.2,rfl,d⟩
  | succ i=>simp at a; simpa using Bd.get e a
theorem Bd.set:∀ {ms:List (Nat×List MapEntry×Nat)} {Kd:List (List (κ×β))} {i:Nat} {e:Nat×List MapEntry×Nat} {x:List (κ×β)},Bd μ ms Kd→je μ e.2.1 e.2.2 x→Bd μ (ms.set i e) (Kd.set i x)
 | [],Kd,i,e,x,h,a=>by rw [Bd] at h; subst h; simp [Bd]
 | m::ms,Kd,i,e,x,h,a=>by
  rw [Bd] at h
  obtain ⟨y,t,rfl,c,b⟩:=h
  cases i with
  | zero=>exact ⟨x,t,rfl,a,b⟩
  | succ i=>exact ⟨y,_,rfl,c,Bd.set b a⟩
theorem Bd.push:∀ {ms:List (Nat×List MapEntry×Nat)} {Kd:List (List (κ×β))} {e:Nat×List MapEntry×Nat} {x:List (κ×β)},Bd μ ms Kd→je μ e.2.1 e.2.2 x→Bd μ (ms++[e]) (Kd++[x])
 | [],Kd,e,x,h,a=>by rw [Bd] at h; subst h; exact ⟨x,[],rfl,a,rfl⟩
 | m::ms,Kd,e,x,h,a=>by
  rw [Bd] at h
  obtain ⟨y,t,rfl,b,c⟩:=h
  exact ⟨y,_,rfl,b,Bd.push c a⟩
theorem Bd.take:∀ {ms:List (Nat×List MapEntry×Nat)} {Kd:List (List (κ×β))} (j:Nat),Bd μ ms Kd→Bd μ (ms.take j) (Kd.take j)
 | [],Kd,j,h=>by rw [Bd] at h; subst h; simp [Bd]
 | m::ms,Kd,j,h=>by
  rw [Bd] at h
  obtain ⟨y,t,rfl,a,b⟩:=h
  cases j with
  | zero=>simp [Bd]
  | succ j=>exact ⟨y,_,rfl,a,Bd.take j b⟩
theorem NC (ms:List (Nat×List MapEntry×Nat)) (e:Nat×List MapEntry×Nat):gb (ms++[e])=.map e.1 e.2.1 e.2.2::gb ms:=by simp [gb]
theorem fD {ms:List (Nat×List MapEntry×Nat)} {i b c tc:Nat} {es a:List MapEntry} (h:ms[i]?=some (b,es,c)):Xb (ms.set i (b,a,tc))=Xb ms:=by
 unfold Xb
 refine List.ext_getElem? fun j=>?_
 rw [List.getElem?_map,List.getElem?_map,List.getElem?_set]
 split
 ·rename_i d
  subst d
  have e:=(List.getElem?_eq_some_iff.1 h).1
  rw [if_pos e,h]; rfl
 ·rfl
theorem gD {ms:List (Nat×List MapEntry×Nat)} {i b c:Nat} {es:List MapEntry} (h:ms[i]?=some (b,es,c)):Wb.map b es c ∈ gb ms:=by
 unfold gb
 rw [List.mem_reverse,List.mem_map]
 exact ⟨(b,es,c),List.mem_of_getElem? h,rfl⟩
theorem _root_.Go.bc.Sep.bC {pre:List Wb} {ms:List (Nat×List MapEntry×Nat)} {i b c:Nat} {es:List MapEntry} (a:ka μ J w (pre++(gb ms++rs))) (h:ms[i]?=some (b,es,c)):w.heap[b]?=some (.map ⟨es⟩ c) :=
 a.all (.map b es c) (by simp [gD h])
theorem Row.mapElem {v:Value} {ms:List (Nat×List MapEntry×Nat)} {Kd:List (List (κ×β))} {i:Int} {x:List (κ×β)} (h:Row w v T 1 Kd.length (Xb ms)) (hm:Bd μ ms Kd) (g:at_ Kd i=some x) :
  ∃ b o a es c,Du v 1 i b o∧(∀ w T,Row w v T 1 Kd.length (Xb ms)→gj w b o [.map (some a)])∧ms[i.toNat]?=some (a,es,c)∧je μ es c x:=by
 obtain ⟨k,l,m⟩:=au g
 obtain ⟨a,es,c,e,n⟩:=hm.get m
 obtain ⟨b,o,r,rfl,s⟩:=h.Zt (by omega)
 refine ⟨b,o+i.toNat,a,es,c,⟨o,_,_,rfl,k,l,by simp⟩,fun t y p j u d=>?_,e,n⟩
 obtain ⟨re,z,tc,f,q⟩:=p.Zt (by omega)
 simp at f
 obtain ⟨⟨rfl,rfl⟩,rfl⟩:=f
 cases j with
 | succ j=>simp at d
 | zero =>
  simp at d
  subst d
  have:(Xb ms)[i.toNat]?=some (.map (some a)):=by unfold Xb; rw [List.getElem?_map,e]; rfl
  exact q _ _ this
theorem Rx {x y z:Operand} {af aa:TypeId} {v:Value} {pre:List Wb} {ms:List (Nat×List MapEntry×Nat)} {b c i:Nat} {es:List MapEntry} {kk:κ} {q:List (κ×β)} {xx:β} {Kd:List (List (κ×β))} (n:P.underlying T=some (.map af aa)) (o:P.underlying af=some (tb.Ce (κ:=κ))) (p:wb fr x (.map (some b))) (r:wb fr y (tb.key kk)) (s:wb fr z v) (t:lh.cj μ v xx)
  (u:ka μ J w (pre++(gb ms++rs))) (d:ms[i]?=some (b,es,c)) (he:je μ es c q) (hm:Bd μ ms Kd)
  (ya:hf fr dst undef Ca) (h:∀ f w',Bd μ f (Kd.set i (cc q kk xx))→Xb ms=Xb f→Kd.length=(Kd.set i (cc q kk xx)).length→ka μ J w' (pre++(gb f++rs))→K Ca ds w'):Zd P (Oper.mk dst (.mapUpdate T x y z) ty pos after g) fr ds w K Q:=by
 have B:=(List.getElem?_eq_some_iff.1 d).1
 have A:(pre++(gb ms++rs))[pre.length+(ms.length - 1 - i)]?=some (.map b es c):=by
  rw [List.getElem?_append_right (by omega),Nat.add_sub_cancel_left,List.getElem?_append_left (by simp [gb]; omega)]
  unfold gb
  rw [List.getElem?_reverse (by simp; omega),List.length_map,show ms.length - 1 - (ms.length - 1 - i)=i by omega,List.getElem?_map,d]
  rfl
 refine FB n o p r (tb.af kk) s u A he.df.keys ya fun w' sc k l=>h _ w' (hm.set (e:=(b,putAt es c (tb.key kk) v,Rn es c (tb.key kk))) (he.put kk t)) (fD d).symm (by simp) ?_
 unfold Ac at k
 subst k
 have e:(pre++(gb ms++rs)).set (pre.length+(ms.length - 1 - i)) (.map b (putAt es c (tb.key kk) v) (Rn es c (tb.key kk)))=pre++(gb (ms.set i (b,putAt es c (tb.key kk) v,Rn es c (tb.key kk)))++rs):=by
  rw [List.set_append_right _ _ (by omega),Nat.add_sub_cancel_left,List.set_append_left _ _ (by simp [gb]; omega)]
  congr 2
  unfold gb
  rw [List.map_set]
  refine List.ext_getElem? fun j=>?_
  rcases Nat.lt_or_ge j ms.length with a | a
  ·rw [List.getElem?_set,List.getElem?_reverse (by simpa using a),List.getElem?_reverse (by simpa using a)]
   simp only [List.length_map,List.length_reverse,List.length_set,List.getElem?_set]
   by_cases m:ms.length - 1 - i=j
   ·rw [if_pos m,if_pos (by omega),if_pos (by omega),if_pos (by omega)]
   ·rw [if_neg m,if_neg (by omega)]
  ·rw [List.getElem?_eq_none (by simpa using a),List.getElem?_eq_none (by simpa using a)]
 rw [e] at l
 exact l
theorem HB {t:TypeId} {s x:Operand} {v:Value} {bytes k b d c:Nat} {ms:List (Nat×List MapEntry×Nat)} {Kd e:List (List (κ×β))} (f:P.underlying t=some (.slice T)) (i:Lc P T Gf vd 1 bytes) (j:vd.length=1)
  (l:wb fr s v) (m:wb fr x (.slice (some ⟨b,0,none⟩) 1 c)) (n:ka μ J w rs) (qa:hc rs k (.row v T 1 Kd.length (Xb ms))) (o:gj w b 0 [.map (some d)]) (Ul:app Kd [([]:List (κ×β))]=some e) (p:bytes≤4096)
  (h:∀ a w' sc,Ac rs k (.row a T 1 e.length (Xb ms++[.map (some d)])) sc→ka μ J w' sc→Kg fr dst a fun Ca=>K Ca ds w') :
  Zd P (Oper.mk dst (.call { callee:=.builtin .append,args:=#[s,x],argTypes:=#[t,t] }) ty pos after g) fr ds w K Q:=by
 obtain ⟨q,r⟩:=Qv Ul
 refine yx f i (by simp [j]) l m n qa o rfl rfl ⟨r,p⟩ fun a w' sc u=>h a w' sc (by rw [q]; exact u)
theorem _root_.Go.bc.Sep.cC {pre:List Wb} {ms:List (Nat×List MapEntry×Nat)} {b c:Nat} {es:List MapEntry} (a:ka μ J w (pre++(.map b es c::(gb ms++rs)))):ka μ J w (pre++(gb (ms++[(b,es,c)])++rs)):=by
 rw [NC]; exact a
theorem Xy (ms:List (Nat×List MapEntry×Nat)) (b c:Nat) (es:List MapEntry):Xb ms++[.map (some b)]=Xb (ms++[(b,es,c)]):=by simp [Xb]
theorem _root_.Go.bc.Sep.vu {pre:List Wb} {ms:List (Nat×List MapEntry×Nat)} {j:Nat} (a:ka μ J w (pre++(gb ms++rs))):ka μ J w (pre++(gb (ms.take j)++rs)):=by
 have c:(pre++(gb (ms.take j)++rs)).Sublist (pre++(gb ms++rs)):=by
  refine (List.Sublist.refl pre).append (List.Sublist.append ?_ (List.Sublist.refl rs))
  unfold gb
  exact ((List.take_sublist j ms).map _).reverse
 refine ⟨a.keeps,fun r e=>a.all r (c.subset e),(c.filterMap _).nodup a.Oi,fun b f=>a.new b ((c.filterMap _).subset f),?_⟩
 refine a.oj.mono fun k _ d=>⟨d.1,fun hm=>d.2 ((c.filterMap Wb.block).subset hm)⟩
theorem Row.QH {v:Value} {sz:Nat} {xs:List Value} {j:Int} (h:Row w v T sz n xs) (d:0≤j) (p:j≤n) :
  ∃ b,Ms v sz none (some j) b∧b.ownBlock=v.ownBlock∧∀ w T,Row w v T sz n xs→Row w b T sz j.toNat (xs.take (j.toNat*sz)):=by
 have qa:∀ w T,Row w v T sz n xs→(xs.take (j.toNat*sz)).length=j.toNat*sz:=fun w T h=>by
  rw [List.length_take,h.1]
  exact Nat.min_eq_left (Nat.mul_le_mul_right _ (by omega))
 rcases h.2 with ⟨rfl,rfl⟩ | ⟨g,o,cap,cur,rfl,q,r,s,t,u⟩
 ·have:j=0:=by omega
  subst this
  exact ⟨.slice none 0 0,⟨none,0,0,rfl,by simp,by simp,by simp,by simp⟩,rfl,fun w T h=>⟨qa w T h,.inl ⟨rfl,rfl⟩⟩⟩
 ·refine ⟨.slice (some ⟨g,o,none⟩) j.toNat cap,⟨_,_,_,rfl,by simp,by simpa using d,by simp; omega,?_⟩,rfl,fun e f c=>⟨qa e f c,.inr ?_⟩⟩
  ·simp [Fi]
  ·rcases c.2 with ⟨a,_⟩ | ⟨x,y,z,i,a,k,k1,l,m,Af⟩
   ·simp at a
   ·simp at a
    obtain ⟨⟨rfl,rfl⟩,rfl⟩:=a
    exact ⟨g,o,cap,i,rfl,k,by omega,l,m,by rw [← Af,List.take_take,Nat.min_eq_left (Nat.mul_le_mul_right _ (by omega))]⟩
theorem Row.cutFrom {v:Value} {sz:Nat} {xs:List Value} {i:Int} (h:Row w v T sz n xs) (j:0≤i) (k:i≤n) :
  ∃ b,Ms v sz (some i) none b∧b.ownBlock=v.ownBlock∧∀ w T,Row w v T sz n xs→Row w b T sz (n - i.toNat) (xs.drop (i.toNat*sz)):=by
 have qa:∀ w T,Row w v T sz n xs→(xs.drop (i.toNat*sz)).length=(n - i.toNat)*sz:=fun w T h=>by
  rw [List.length_drop,h.1,Nat.sub_mul]
 rcases h.2 with ⟨rfl,rfl⟩ | ⟨g,o,cap,cur,rfl,p,q,r,s,t⟩
 ·have:i=0:=by omega
  subst this
  exact ⟨.slice none 0 0,⟨none,0,0,rfl,by simp,by simp,by simp,by simp⟩,rfl,fun w T h=>⟨qa w T h,.inl ⟨rfl,by simp⟩⟩⟩
 ·refine ⟨_,⟨_,_,_,rfl,by simpa using j,by simpa using k,by simp; omega,rfl⟩,by simp only [Option.getD_some]; split <;> simp [Value.ownBlock,Fi],fun l m c=>⟨qa l m c,.inr ?_⟩⟩
  rcases c.2 with ⟨a,_⟩ | ⟨u,x,y,d,a,e,k1,z,A,Af⟩
  ·simp at a
  ·simp at a
   obtain ⟨⟨rfl,rfl⟩,rfl⟩:=a
   have hmul:i.toNat*sz+(cap - i.toNat)*sz=cap*sz:=by rw [← Nat.add_mul]; congr 1; omega
   by_cases f:cap=i.toNat
   ·refine ⟨g,o,cap - i.toNat,d,by simp [f],e,by omega,by omega,by omega,?_⟩
    rw [show n - i.toNat=0 by omega,Nat.zero_mul,List.take_zero,List.drop_eq_nil_of_le (by rw [c.1]; exact Nat.mul_le_mul_right _ (by omega))]
   ·refine ⟨g,o+i.toNat*sz,cap - i.toNat,d,by simp [f,Fi],e,by omega,by omega,by omega,?_⟩
    rw [← Af,← List.drop_drop,List.drop_take,Nat.sub_mul]
theorem pa.drop {α:Type} [cb α]:∀ {l:List α} {cells:List Value} (i:Nat),pa μ cells l→pa μ (cells.drop (i*cb.sz α)) (l.drop i)
 | [],cells,i,h=>by rw [pa] at h; subst h; simp [pa]
 | x::l,cells,0,h=>by simpa using h
 | x::l,cells,i+1,h=>by
  rw [pa] at h
  obtain ⟨cs,t,rfl,a,b⟩:=h
  have e:(i+1)*cb.sz α=cs.length+i*cb.sz α:=by rw [Nat.add_mul,cb.th a]; omega
  rw [e,← List.drop_drop]
  simpa using pa.drop i b
theorem Row.wI {α:Type} [cb α] {v:Value} {cells:List Value} {l Ia:List α} {i:Int} (h:Row w v T (cb.sz α) l.length cells) (hm:pa μ cells l) (g:cut l i l.length=some Ia) :
  ∃ a b,Ms v (cb.sz α) (some i) none a∧a.ownBlock=v.ownBlock∧(∀ w T,Row w v T (cb.sz α) l.length cells→Row w a T (cb.sz α) Ia.length b)∧pa μ b Ia:=by
 obtain ⟨⟨c,d,k⟩,rfl⟩:=Vt g
 obtain ⟨a,sa,e,f⟩:=Row.cutFrom h c d
 refine ⟨a,cells.drop (i.toNat*cb.sz α),sa,e,fun w T j=>?_,by simpa using hm.drop i.toNat⟩
 have:=f w T j
 simpa using this
theorem Row.nC {v:Value} {ms:List (Nat×List MapEntry×Nat)} {Kd b:List (List (κ×β))} {j:Int} (h:Row w v T 1 Kd.length (Xb ms)) (hm:Bd μ ms Kd) (g:cut Kd 0 j=some b) :
  ∃ a c,Ms v 1 none (some j) a∧a.ownBlock=v.ownBlock∧(∀ w T,Row w v T 1 Kd.length (Xb ms)→Row w a T 1 b.length (Xb c))∧Bd μ c b∧ms.take j.toNat=c:=by
 obtain ⟨⟨l,d,e⟩,rfl⟩:=Vt g
 obtain ⟨a,sa,f,i⟩:=Row.QH h d e
 refine ⟨a,ms.take j.toNat,sa,f,fun w T k=>?_,by simpa using hm.take j.toNat,rfl⟩
 have:=i w T k
 have el:((Kd.take j.toNat).drop (0:Int).toNat).length=j.toNat:=by simp; omega
 rw [el]
 have Ba:Xb (ms.take j.toNat)=(Xb ms).take (j.toNat*1):=by simp [Xb]
 rw [Ba]
 exact this
theorem _root_.Go.bc.Sep.perm {S Jd:Nat→Prop} {A:World→Prop} (h:Sep S Jd J w rs A) (a:rs.Perm sc):Sep S Jd J w sc A where
 keeps:=h.keeps
 all r d:=h.all r (a.mem_iff.2 d)
 Oi:=(a.filterMap _).nodup_iff.1 h.Oi
 new b e:=h.new b ((a.filterMap _).mem_iff.2 e)
 oj:=h.oj.mono fun k _ c=>⟨c.1,fun hm=>c.2 ((a.filterMap Wb.block).mem_iff.2 hm)⟩
theorem _root_.Go.bc.Sep.Ld {a p M R:List Wb} (h:ka μ J w (a++(p++(M++R)))):ka μ J w (a++(M++(p++R))) :=
 h.perm (List.Perm.append_left a (by
  rw [← List.append_assoc,← List.append_assoc]
  exact List.Perm.append_right R List.perm_append_comm))
theorem _root_.Go.bc.Sep.py {k:Nat} {v c:Value} {sz e:Nat} {xs f:List Value} {S Jd:Nat→Prop} {A:World→Prop} (a:Sep S Jd J w rs A) (qa:hc rs k (.row v T sz n xs)) (l:c.ownBlock=v.ownBlock) (m:∀ w T,Row w v T sz n xs→Row w c T sz e f) (g:Ac rs k (.row c T sz e f) sc):Sep S Jd J w sc A:=by
 have h:Row w v T sz n xs:=a.get qa
 cases o:v.ownBlock with
 | some b=>exact a.put (b:=b) (r:=.row v T sz n xs) (r':=.row c T sz e f) qa o (l.trans o) g (m _ _ h) (xh.refl _)
 | none =>
  unfold Ac at g
  subst g
  have j:=Az (r':=.row c T sz e f) qa (show c.ownBlock=v.ownBlock from l)
  refine ⟨a.keeps,fun r p=>?_,by rw [j]; exact a.Oi,by rw [j]; exact a.new,by rw [j]; exact a.oj⟩
  obtain ⟨i,d⟩:=List.mem_iff_getElem?.1 p
  rw [List.getElem?_set] at d
  split at d
  ·split at d
   ·cases d; exact m _ _ h
   ·cases d
  ·exact a.all r (List.mem_of_getElem? d)
end
end Go.Dc
namespace Go.Dc
open Go.bc Go.RowKit
theorem Ic {P : Program} {f : FuncId} {fn : Func} (a : P.funcs[f]? = some fn) (b : fn.body.isSome = true := by rfl) (c : (fn.name == "runtime.NumGoroutine") = false := by kernel_rfl) : yc P f := OF a b c
theorem Ye {P : Program} {T : TypeId} {d : TypeDesc} {Gf : Bool} {z : Value} {vd : List Value} {n m : Nat} (hu : P.underlying T = some d) (a : xw d = Gf := by rfl) (h : (P.info? T).map (fun i => (i.zero, i.size, i.bytes)) = some (some z, n, m) := by kernel_rfl) (b : z.cells = ⟨vd⟩ := by rfl) : Lc P T Gf vd n m := KH hu a h b
end Go.Dc
namespace Go.Dc
open Go.bc Go.RowKit
theorem Rh {v:Value} {l:List Value} (h:Me v=true) (k:l.all Me=true):(v::l).all Me=true:=by simp [h,k]
theorem Hs:([]:List Value).all Me=true:=rfl
theorem hD (A vs:List Value) (o q N:Nat) (c:q+vs.length≤N) (d:o+N≤A.length):((A.take (o+q)++vs++A.drop (o+q+vs.length)).drop o).take N=((A.drop o).take N).take q++vs++((A.drop o).take N).drop (q+vs.length):=by
 apply List.ext_getElem?
 intro j
 simp only [List.getElem?_take,List.getElem?_drop,List.getElem?_append,List.length_append,List.length_take,List.length_drop]
 have sa:min (o+q) A.length=o+q:=by omega
 have a:min q (min N (A.length - o))=q:=by omega
 rw [sa,a]
 by_cases b:j<q
 ·have c2:j<N:=by omega
  have c3:j<q+vs.length:=by omega
  simp [b,c2,c3,show o+j<o+q by omega,show o+j<o+q+vs.length by omega]
 ·by_cases c2:j<q+vs.length
  ·rw [if_pos (by omega),if_pos (by omega),if_neg (by omega),if_pos (by omega),if_neg (by omega)]
   congr 1; omega
  ·by_cases c3:j<N
   ·rw [if_pos c3,if_neg (by omega),if_neg (by omega),if_pos (by omega)]
    congr 1; omega
   ·rw [if_neg c3,if_neg (by omega),if_neg (by omega)]
section
variable {P:Program} {Q:Exit→Act→World→Prop} {K:List Value→List Deferred→World→Prop} {fr Ca:List Value} {ds:List Deferred} {w:World}
variable {dst:Option Tmp} {ty:TypeId} {pos:String} {after:Array Edge} {g:Option (Nat×Bool)}
variable {J:World} {rs sc:List Wb} {μ na:M}
variable {T:TypeId} {d:TypeDesc} {Gf:Bool} {vd:List Value} {n m:Nat}
theorem Ex {x y:Operand} {b o off sz len k:Nat} {i:Int} {v e:Value} {vs xs j:List Value} {a:TypeId} {S Jd:Nat→Prop} {A:World→Prop} (s:Lc P T Gf vd n m) (t:wb fr x (.pointer (some ⟨b,o+off,none⟩))) (u:wb fr y e) (f:e.cells=⟨vs⟩) (z:vs.length=n) (B:vs.all Me=true)
  (l:Sep S Jd J w rs A) (qa:hc rs k (.row v a sz len xs)) (he:Du v sz i b o) (W:off+vs.length≤sz) (C:xs.take (i.toNat*sz+off)++vs++xs.drop (i.toNat*sz+off+vs.length)=j) (D:Ac rs k (.row v a sz len j) sc)
  (ya:hf fr dst undef Ca) (h:∀ w',Sep S Jd J w' sc A→K Ca ds w'):Zd P (Oper.mk dst (.store T x y) ty pos after g) fr ds w K Q:=by
 have E:Row w v a sz len xs:=l.get qa
 obtain ⟨c,X,c0,rfl,Y,Z,rfl⟩:=he.out
 obtain ⟨hlen,d⟩:=E
 rcases d with ⟨d,-⟩ | ⟨gc,lc,cap,cur,d,F,p,G,rc,H⟩
 ·cases d
 ·cases d
  have L:i.toNat<len:=by omega
  have hmul:(i.toNat+1)*sz≤len*sz:=Nat.mul_le_mul_right _ L
  have fd:len*sz≤c0*sz:=Nat.mul_le_mul_right _ p
  have id:(i.toNat+1)*sz=i.toNat*sz+sz:=Nat.succ_mul ..
  have q:pk w b a cur.toList:=F
  have hle:(c+i.toNat*sz+off)+0+vs.length≤(⟨cur.toList⟩:Array Value).size:=by simp; omega
  have r:=run_storeCells_at P b (c+i.toNat*sz+off) a vs 0 ⟨cur.toList⟩ w q hle fun v f=>Jv (List.all_eq_true.1 B v f)
  have sa:e.cells.toList=vs:=by rw [f]
  have M:¬ (e.cells.size≠n):=by rw [f]; simpa using z
  have N:=s.sizeOf (w:=w)
  simp only [Nat.add_zero] at r
  have R:xh (fun k=>k≠b) w (w.setRow b (cur.toList.take (c+i.toNat*sz+off)++vs++cur.toList.drop (c+i.toNat*sz+off+vs.length)).toArray):=⟨rfl,rfl,rfl,by simp [World.setRow],fun k md V=>setRow_other w b k _ V⟩
  refine vy ?_ ya (h _ (l.put (b:=b) qa rfl rfl D ?_ R))
  ·simp only [execOp,Instr.storeAt,t ds,u ds,Instr.sureAddr,storeVar,Sem.run_bind,N,Result.andThen_ok,if_neg M,sa,r,Sem.run_pure]
  ·subst C
   refine ⟨by simp [hlen]; omega,.inr ⟨b,c,c0,_,rfl,setRow_heap w b ⟨cur.toList⟩ _ a (0,0) q,p,G,?_,?_⟩⟩
   ·simp; omega
   ·subst H
    have:=hD cur.toList vs c (i.toNat*sz+off) (len*sz) (by omega) (by simp; omega)
    rw [← Nat.add_assoc] at this
    exact this
class uJ (α β:Type) [cb α] [cb β] where
 code:α→List β
 set:α→List β→α
 ya:M→List Value→α→Prop
 up:∀ {μ na:M} {l:List Value} {x:α},ga μ na→ya μ l x→ya na l x
 th:∀ {μ:M} {l:List Value} {x:α},ya μ l x→l.length+1=cb.sz α
 wr:∀ {μ:M} {l:List Value} {x:α} {ys:List β} {a:Option Addr} {c:Nat},ya μ l x→Ka μ a c ys→cb.cs μ (l++[.slice a ys.length c]) (set x ys)
 st:∀ {μ:M} {l:List Value} {x:α} {ys:List β},ya μ l x→ya μ l (set x ys)
 mg:∀ {x:α},set x (code x)=x
 cs:∀ {x:α} {ys:List β},code (set x ys)=ys
variable {α β:Type} [cb α] [cb β] [uJ α β]
end
end Go.Dc
namespace Go.bc
open Go.RowKit
section
variable {P:Program} {Q:Exit→Act→World→Prop} {ops:Array Oper} {fr Ca:List Value} {ds:List Deferred} {w:World}
end
end Go.bc
namespace Go.bc
open Go.RowKit
section
variable {P:Program} {Q:Exit→Act→World→Prop} {ops:Array Oper} {fr Ca:List Value} {ds:List Deferred} {w:World}
abbrev Mon:=List Nat×(World→Prop)
def Bh (i:Nat) (nc:List Mon):List Mon:=nc.filter fun m=>!m.1.contains i
def Oa:List Mon→World→Prop
 | [],_=>True
 | m::l,w=>m.2 w∧Oa l w
theorem Oa.mem {nc:List Mon} {w:World}:Oa nc w ↔ ∀ m ∈ nc,m.2 w:=by
 induction nc with
 | nil=>simp [Oa]
 | cons m l a=>simp [Oa,a]
theorem Oa.sub {nc Ns':List Mon} (h:Oa nc w) (a:∀ m ∈ Ns',m ∈ nc):Oa Ns' w:=Oa.mem.2 fun m hm=>Oa.mem.1 h m (a m hm)
theorem Rv {i:Nat} {nc:List Mon}:∀ m ∈ Bh i nc,m ∈ nc:=fun m hm=>(List.mem_filter.1 hm).1
theorem Kv {i:Nat} {nc Ns':List Mon} (h:∀ m ∈ Ns',m ∈ nc):∀ m ∈ Bh i Ns',m ∈ Bh i nc:=fun m hm=>List.mem_filter.2 ⟨h m (List.mem_filter.1 hm).1,(List.mem_filter.1 hm).2⟩
def Bg (P:Program) (ops:Array Oper) (Q:Exit→Act→World→Prop):List Mon→List Nat→Act→World→Prop
 | _,[],a,w=>Q .normal a w
 | nc,i::rest,a,w =>
  match ops[i]? with
  | none=>Bg P ops Q (Bh i nc) rest a w
  | some o =>
   if Region.wanted o (yielded ops a.tmps) then o.wp P a w (fun a w=>Oa (Bh i nc) w∧Bg P ops Q (Bh i nc) rest a w) Q∨(o.asks P a w∧LetsOut Q)
   else Bg P ops Q (Bh i nc) rest (a.put o.dst undef) w
theorem ay {o:Oper} {a:Act} {K c:Act→World→Prop} (h:o.wp P a w K Q) (b:∀ a w,K a w→c a w):o.wp P a w c Q:=by
 unfold Oper.wp at h ⊢
 cases d:(execOp a.eval o).run P w with
 | halt e w'=>rw [d] at h; cases e <;> exact h
 | ok r w' =>
  rw [d] at h
  cases r with
  | value x=>exact b _ _ h
  | skip=>exact b _ _ h
  | defer i=>exact b _ _ h
  | enter f args =>
   rw [Oper.upon_enter] at h ⊢
   refine Calls.mono h fun e g he=>?_
   cases e with
   | returned x=>exact b _ _ he
   | panicked j=>exact he
   | outgrown=>exact he
  | row r args =>
   rw [Oper.upon_row] at h ⊢
   exact Rows.mono h fun x g he=>b _ _ he
  | _=>exact h
theorem Bg.mono:∀ (b:List Nat) {nc Ns':List Mon} {a:Act} {w:World},Bg P ops Q nc b a w→(∀ m ∈ Ns',m ∈ nc)→Bg P ops Q Ns' b a w
 | [],_,_,_,_,h,_=>h
 | i::b,nc,Ns',a,w,h,c=>by
  simp only [Bg] at h ⊢
  cases d:ops[i]? with
  | none=>rw [d] at h; exact Bg.mono b h (Kv c)
  | some o =>
   rw [d] at h
   simp only at h ⊢
   split
   ·rename_i hw
    rw [if_pos hw] at h
    rcases h with h | h
    ·exact .inl (ay h fun a w ⟨e,f⟩=>⟨e.sub (Kv c),Bg.mono b f (Kv c)⟩)
    ·exact .inr h
   ·rename_i hw
    rw [if_neg hw] at h
    exact Bg.mono b h (Kv c)
theorem Bg.plain:∀ (b:List Nat) {nc:List Mon} {a:Act} {w:World},Bg P ops Q nc b a w→wpOps P ops Q b a w
 | [],_,_,_,h=>h
 | i::b,nc,a,w,h=>by
  simp only [Bg] at h
  simp only [wpOps]
  cases c:ops[i]? with
  | none=>rw [c] at h; exact Bg.plain b h
  | some o =>
   rw [c] at h
   simp only at h ⊢
   split
   ·rename_i hw
    rw [if_pos hw] at h
    rcases h with h | h
    ·exact .inl (ay h fun a w ⟨_,d⟩=>Bg.plain b d)
    ·exact .inr h
   ·rename_i hw
    rw [if_neg hw] at h
    exact Bg.plain b h
theorem xy (q:fl Q) {N:World→Prop} {S:List Nat} {i d:Nat} {o:Oper} {v:Value} (A:ops[i]?=some o) (ya:o.dst=some d) {wt:Bool} (B:wt=false→v=undef) :
  ∀ (a b:List Nat) (fr:List Value) (ds:List Deferred) (w:World) (nc:List Mon),
   (∀ j ∈ a,j ∉ S∧match ops[j]? with
    | some p=>kq p.op=true∧(reads ops p).contains d=false∧p.dst≠some d∧(∀ e,p.dst=some e→(reads ops o).contains e=false)
    | none=>True) →
   N w→Oa nc w→kq o.op=true→Region.wanted o (yielded ops (F fr ds).tmps)=wt →
   (wt=true→∀ ds w,N w→(execOp (F fr ds).eval o).run P w=.ok (.value v) w) →
   Bg P ops Q ((S,N)::nc) (a++b) (F (fr.set d v) ds) w→Bg P ops Q nc (a++i::b) (F fr ds) w
 | [],b,fr,ds,w,nc,_,hw,s,t,c,u,h=>by
  simp only [List.nil_append] at h ⊢
  have h:=Bg.mono b h (Ns':=Bh i nc) fun m hm=>List.mem_cons_of_mem _ (Rv m hm)
  simp only [Bg,A]
  cases wt with
  | true =>
   rw [if_pos c]
   left
   unfold Oper.wp
   rw [u rfl ds w hw,Oper.upon_value,ya]
   rw [show (F fr ds).put (some d) v=F (fr.set d v) ds from ma rfl ds]
   exact ⟨s.sub Rv,h⟩
  | false =>
   rw [if_neg (by rw [c]; simp),ya,← B rfl]
   rw [show (F fr ds).put (some d) v=F (fr.set d v) ds from ma rfl ds]
   exact h
 | j::a,b,fr,ds,w,nc,H,hw,s,t,c,u,h=>by
  obtain ⟨W,C⟩:=H j (by simp)
  have K:∀ k ∈ a,_:=fun k l=>H k (by simp [l])
  have X:Bh j ((S,N)::nc)=(S,N)::Bh j nc:=by simp [Bh,W]
  simp only [List.cons_append,Bg,X] at h ⊢
  cases L:ops[j]? with
  | none =>
   rw [L] at h
   simp only at h ⊢
   exact xy q A ya B a b fr ds w _ K hw (s.sub Rv) t c u h
  | some p =>
   rw [L] at h C
   simp only at h C ⊢
   obtain ⟨M,D,Y,R⟩:=C
   rw [HD (fr:=fr) (v:=v) (ds:=ds) (ds':=ds) D] at h
   have key:∀ (x:Value) (w':World) (ds':List Deferred),N w'→Oa (Bh j nc) w'→Bg P ops Q ((S,N)::Bh j nc) (a++b) ((F (fr.set d v) ds').put p.dst x) w'→Bg P ops Q (Bh j nc) (a++i::b) ((F fr ds').put p.dst x) w':=by
    intro x w' ds' Z gc l
    obtain ⟨g,g1,g2,g3⟩:=put_eq fr ds' p.dst x
    have lc:=wanted_put (ops:=ops) (o:=o) (p:=p) (ds':=ds') (fun y E=>g3 fr y ds' ds' E) R
    rw [g1] at l ⊢
    rw [g2 _ _ _ Y] at l
    refine xy q A ya B a b (g fr) ds' w' _ K Z gc t (lc.trans c) (fun rc n fd id=>?_) l
    rw [show execOp (F (g fr) n).eval o=execOp (F fr n).eval o from execOp_congr o t fun y E=>g3 fr y n n fun e he md=>by
     exact xA (R e he) y E md]
    exact u rc n fd id
   by_cases T:Region.wanted p (yielded ops (F fr ds).tmps)=true
   ·rw [if_pos T] at h ⊢
    rcases h with h | h
    ·left
     unfold Oper.wp at h ⊢
     rw [yA (ds':=ds) M D] at h
     cases V:(execOp (F fr ds).eval p).run P w with
     | halt e w' =>
      rw [V] at h
      cases e <;> first | exact h | exact q _ (F (fr.set d v) ds) _ w' rfl h
     | ok r w' =>
      rw [V] at h
      cases r with
      | value x=>exact ⟨h.1.2,key x w' ds h.1.1 h.1.2 h.2⟩
      | skip=>exact ⟨h.1.2,key undef w' ds h.1.1 h.1.2 h.2⟩
      | defer rd=>exact ⟨h.1.2,key undef w' (rd::ds) h.1.1 h.1.2 h.2⟩
      | enter f args =>
       rw [Oper.upon_enter] at h ⊢
       refine Calls.mono h fun e z he=>?_
       cases e with
       | returned x=>exact ⟨he.1.2,key x z ds he.1.1 he.1.2 he.2⟩
       | panicked wd=>exact q wd (F (fr.set d v) ds) _ z rfl he
       | outgrown=>exact he
      | row r args =>
       rw [Oper.upon_row] at h ⊢
       exact Rows.mono h fun x z he=>⟨he.1.2,key x z ds he.1.1 he.1.2 he.2⟩
      | _=>exact h
    ·right
     refine ⟨?_,h.2⟩
     have G:=h.1
     unfold Oper.asks at G ⊢
     rw [yA (ds':=ds) M D] at G
     exact G
   ·rw [if_neg T] at h ⊢
    exact key undef w ds hw (s.sub Rv) h
structure We (P:Program) (ops:Array Oper) (Q:Exit→Act→World→Prop) (nc:List Mon) (R:List Nat) (fr:List Value) (ds:List Deferred) (w:World):Prop where
 out:Oa nc w→∀ a,Jl ops R a→Bg P ops Q nc a (F fr ds) w
theorem Pd {R:List Nat} (h:We P ops Q [] R fr ds w):Oy P ops Q R fr ds w:=⟨fun a b=>Bg.plain a (h.out trivial a b)⟩
theorem Hd {nc:List Mon} (h:Q .normal (F fr ds) w):We P ops Q nc [] fr ds w:=⟨fun _ b a=>by
 cases a with
 | z=>exact h
 | s h _=>exact absurd (Yq h) (by simp)⟩
def Ll (ops:Array Oper) (S R:List Nat) (i:Nat):Bool :=
 match ops[i]? with
 | some o=>match o.dst with
  | some d=>kq o.op && R.all fun j=>S.contains j || (match ops[j]? with
    | some p=>kq p.op && !(reads ops p).contains d && p.dst != some d && (match p.dst with | some e=>!(reads ops o).contains e | none=>true)
    | none=>true)
  | _=>false
 | none=>false
theorem At {nc:List Mon} {R Lf:List Nat} {i:Nat} (S:List Nat) (N:World→Prop) {wt:Bool} {dst:Tmp} {op:Op} {ty:TypeId} {pos:String} {after:Array Edge} {l:Option (Nat×Bool)} {v:Value} (C:fl Q) (m:(decide R.Nodup && enabled ops R i && waits ops R S i && Ll ops S R i && S.contains i)=true) (D:R.erase i=Lf) (n:ops[i]?=some ⟨some dst,op,ty,pos,after,l⟩)
  (E:Region.wanted ⟨some dst,op,ty,pos,after,l⟩ (yielded ops (F fr ds).tmps)=wt) (G:wt=false→v=undef) (o:N w)
  (H:wt=true→∀ ds w',N w'→(execOp (F fr ds).eval ⟨some dst,op,ty,pos,after,l⟩).run P w'=.ok (.value v) w') (f:Ac fr dst v Ca) (h:We P ops Q ((S,N)::nc) Lf Ca ds w):We P ops Q nc R fr ds w:=⟨fun q X r=>by
 simp only [Bool.and_eq_true,decide_eq_true_eq] at m
 obtain ⟨⟨⟨⟨s,t⟩,u⟩,g⟩,-⟩:=m
 obtain ⟨x,y,rfl,K,z⟩:=r.split s (Yq t) t
 have A:=Jl.later (S:=S) r s (fun j d=>by
  unfold waits at u
  have:=List.all_eq_true.1 u j d
  simp only [Bool.or_eq_true,beq_iff_eq,List.any_eq_true,Bool.and_eq_true,List.contains_iff_mem] at this
  rcases this with h | ⟨k,k1,L,M⟩
  ·exact .inl h
  ·exact .inr ⟨k,k1,L,M⟩) x y rfl (fun hm=>(z i hm).2.1 rfl)
 unfold Ll at g
 simp only [n,Bool.and_eq_true,List.all_eq_true,Bool.or_eq_true,List.contains_iff_mem] at g
 unfold Ac at f
 subst f
 subst D
 refine xy C n rfl G (N:=N) (S:=S) (v:=v) x y fr ds w nc (fun j d=>⟨A j d,?_⟩) o q g.1 E H (h.out ⟨o,q⟩ _ K)
 obtain ⟨a,b,c⟩:=z j d
 have:=g.2 j a
 rcases this with h | h
 ·exact absurd h (A j d)
 ·cases f:ops[j]? with
  | none=>trivial
  | some p =>
   rw [f] at h
   simp only [Bool.and_eq_true,Bool.not_eq_true',bne_iff_ne,ne_eq] at h
   obtain ⟨⟨⟨T,V⟩,W⟩,B⟩:=h
   refine ⟨T,V,W,fun e he=>?_⟩
   rw [he] at B; simpa using B⟩
theorem qy {nc:List Mon} {R Lf:List Nat} {i:Nat} (S:List Nat) {dst:Tmp} {op:Op} {ty:TypeId} {pos:String} {after:Array Edge} {v:Value} (a:fl Q) (b:(decide R.Nodup && enabled ops R i && waits ops R S i && Ll ops S R i && S.contains i)=true) (c:R.erase i=Lf) (d:ops[i]?=some ⟨some dst,op,ty,pos,after,none⟩)
  (e:cn P ⟨some dst,op,ty,pos,after,none⟩ fr w v) (f:Ac fr dst v Ca) (h:We P ops Q ((S,fun w'=>cn P ⟨some dst,op,ty,pos,after,none⟩ fr w' v)::nc) Lf Ca ds w):We P ops Q nc R fr ds w :=
 At S _ (wt:=true) a b c d (Gb rfl) (fun h=>by cases h) e (fun _ ds w' hw=>hw.out ds) f h
theorem AG {nc:List Mon} {R Lf:List Nat} {i j d:Nat} {b:Bool} (S:List Nat) {dst:Tmp} {op:Op} {ty:TypeId} {pos:String} {after:Array Edge} {v:Value} (a:fl Q) (c:(decide R.Nodup && enabled ops R i && waits ops R S i && Ll ops S R i && S.contains i)=true) (e:R.erase i=Lf) (f:ops[i]?=some ⟨some dst,op,ty,pos,after,some (j,b)⟩) (g:(ops[j]?).bind (·.dst)=some d) (qa:hc fr d (.bool b))
  (k:cn P ⟨some dst,op,ty,pos,after,some (j,b)⟩ fr w v) (l:Ac fr dst v Ca) (h:We P ops Q ((S,fun w'=>cn P ⟨some dst,op,ty,pos,after,some (j,b)⟩ fr w' v)::nc) Lf Ca ds w):We P ops Q nc R fr ds w :=
 At S _ (wt:=true) a c e f (Dx rfl g qa) (fun h=>by cases h) k (fun _ ds w' hw=>hw.out ds) l h
theorem Bg.add {m:Mon} (c:∀ w,m.2 w):∀ (b:List Nat) {nc:List Mon} {a:Act} {w:World},Bg P ops Q nc b a w→Bg P ops Q (m::nc) b a w
 | [],_,_,_,h=>h
 | i::b,nc,a,w,h=>by
  have d:Bh i (m::nc)=m::Bh i nc∨Bh i (m::nc)=Bh i nc:=by
   unfold Bh
   rw [List.filter_cons]
   split
   ·exact .inl rfl
   ·exact .inr rfl
  have key:∀ {a w},Bg P ops Q (Bh i nc) b a w→Bg P ops Q (Bh i (m::nc)) b a w:=fun h=>by
   rcases d with e | e <;> rw [e]
   ·exact Bg.add c b h
   ·exact h
  have g:∀ {w},Oa (Bh i nc) w→Oa (Bh i (m::nc)) w:=fun h=>by
   rcases d with e | e <;> rw [e]
   ·exact ⟨c _,h⟩
   ·exact h
  simp only [Bg] at h ⊢
  cases f:ops[i]? with
  | none=>rw [f] at h; exact key h
  | some o =>
   rw [f] at h
   simp only at h ⊢
   split
   ·rename_i hw
    rw [if_pos hw] at h
    rcases h with h | h
    ·exact .inl (ay h fun a w ⟨j,k⟩=>⟨g j,key k⟩)
    ·exact .inr h
   ·rename_i hw
    rw [if_neg hw] at h
    exact key h
theorem cy {nc:List Mon} {m:Mon} {R:List Nat} (b:∀ w,m.2 w) (h:We P ops Q nc R fr ds w):We P ops Q (m::nc) R fr ds w:=⟨fun c a d=>Bg.add b a (h.out c.2 a d)⟩
theorem Fo {nc:List Mon} {R Lf:List Nat} {i:Nat} (S:List Nat) {dst:Tmp} {op:Op} {ty:TypeId} {pos:String} {after:Array Edge} {v:Value} (a:fl Q) (b:(decide R.Nodup && enabled ops R i && waits ops R S i && Ll ops S R i && S.contains i)=true) (c:R.erase i=Lf) (d:ops[i]?=some ⟨some dst,op,ty,pos,after,none⟩)
  (e:uf P ⟨some dst,op,ty,pos,after,none⟩ fr v) (f:Ac fr dst v Ca) (h:We P ops Q nc Lf Ca ds w):We P ops Q nc R fr ds w :=
 At S (fun _=>True) (wt:=true) a b c d (Gb rfl) (fun h=>by cases h) trivial (fun _ ds w' _=>e.out ds w') f (cy (fun _=>trivial) h)
theorem BG {nc:List Mon} {R Lf:List Nat} {i j d:Nat} {b:Bool} (S:List Nat) {dst:Tmp} {op:Op} {ty:TypeId} {pos:String} {after:Array Edge} {v:Value} (a:fl Q) (c:(decide R.Nodup && enabled ops R i && waits ops R S i && Ll ops S R i && S.contains i)=true) (e:R.erase i=Lf) (f:ops[i]?=some ⟨some dst,op,ty,pos,after,some (j,b)⟩) (g:(ops[j]?).bind (·.dst)=some d) (qa:hc fr d (.bool b))
  (k:uf P ⟨some dst,op,ty,pos,after,some (j,b)⟩ fr v) (l:Ac fr dst v Ca) (h:We P ops Q nc Lf Ca ds w):We P ops Q nc R fr ds w :=
 At S (fun _=>True) (wt:=true) a c e f (Dx rfl g qa) (fun h=>by cases h) trivial (fun _ ds w' _=>k.out ds w') l (cy (fun _=>trivial) h)
theorem CG {nc:List Mon} {R Lf:List Nat} {i j d:Nat} {b re:Bool} (S:List Nat) {dst:Tmp} {op:Op} {ty:TypeId} {pos:String} {after:Array Edge} (a:fl Q) (c:(decide R.Nodup && enabled ops R i && waits ops R S i && Ll ops S R i && S.contains i)=true) (e:R.erase i=Lf) (f:ops[i]?=some ⟨some dst,op,ty,pos,after,some (j,b)⟩) (g:(ops[j]?).bind (·.dst)=some d) (qa:hc fr d (.bool re)) (k:(re == b)=false)
  (l:Ac fr dst undef Ca) (h:We P ops Q nc Lf Ca ds w):We P ops Q nc R fr ds w :=
 At S (fun _=>True) (wt:=false) a c e f ((CA rfl g qa).trans k) (fun _=>rfl) trivial (fun h=>by cases h) l (cy (fun _=>trivial) h)
structure Kw (P:Program) (ops:Array Oper) (Q:Exit→Act→World→Prop) (nc:List Mon) (R:List Nat) (fr:List Value) (ds:List Deferred) (w:World):Prop where
 m:Oa nc w
 s:We P ops Q nc R fr ds w
theorem Oa.s {m:Mon} {l:List Mon} (h:m.2 w) (k:Oa l w):Oa (m::l) w:=⟨h,k⟩
theorem Oa.z:Oa [] w:=trivial
theorem IB {nc:List Mon} {R:List Nat} (c:R≠[]) (h:∀ i ∈ oy ops R,∃ o,ops[i]?=some o∧Region.wanted o (yielded ops (F fr ds).tmps)=true∧Zd P o fr ds w (Kw P ops Q (Bh i nc) (R.erase i)) Q):We P ops Q nc R fr ds w:=⟨fun k d e=>by
 cases e with
 | z=>exact absurd rfl c
 | @s _ d i b f =>
  obtain ⟨o,g,hw,j⟩:=h i (List.mem_filter.2 ⟨Yq b,b⟩)
  simp only [Bg,g]
  rw [if_pos hw]
  exact .inl (j.out _ fun Ca ds' w' a=>⟨a.m,a.s.out a.m _ f⟩)⟩
theorem Kb {nc Ns':List Mon} {R:List Nat} {i:Nat} {Lf:List Nat} {o:Oper} (b:oy ops R=[i]) (c:R.erase i=Lf) (ya:Bh i nc=Ns') (d:ops[i]?=some o) (hw:Region.wanted o (yielded ops (F fr ds).tmps)=true)
  (h:Zd P o fr ds w (Kw P ops Q Ns' Lf) Q):We P ops Q nc R fr ds w :=
 IB (by intro e; subst e; cases b) fun k a=>by
  rw [b] at a
  simp at a
  subst a
  exact ⟨_,d,hw,by rw [c,ya]; exact h⟩
theorem xC {nc d f:List Mon} {R:List Nat} {i j:Nat} {g h:List Nat} {a b:Oper} (l:oy ops R=[i,j]) (m:R.erase i=g) (n:R.erase j=h) (o:Bh i nc=d) (p:Bh j nc=f) (q:ops[i]?=some a) (r:ops[j]?=some b) (s:Region.wanted a (yielded ops (F fr ds).tmps)=true) (t:Region.wanted b (yielded ops (F fr ds).tmps)=true)
  (u:Zd P a fr ds w (Kw P ops Q d g) Q) (v:Zd P b fr ds w (Kw P ops Q f h) Q):We P ops Q nc R fr ds w :=
 IB (by intro e; subst e; cases l) fun k c=>by
  rw [l] at c
  simp at c
  rcases c with rfl | rfl
  ·exact ⟨_,q,s,by rw [m,o]; exact u⟩
  ·exact ⟨_,r,t,by rw [n,p]; exact v⟩
theorem yC {nc:List Mon} {R:List Nat} {oh ph:List Value} {d:Nat} {b:Bool} (qa:hc fr d (.bool b)) (a:Ac fr d (.bool true) oh) (c:Ac fr d (.bool false) ph)
  (e:b=true→We P ops Q nc R oh ds w) (f:¬ b=true→We P ops Q nc R ph ds w):We P ops Q nc R fr ds w:=by
 cases b with
 | true=>have:=e rfl; rw [Ac.same qa a] at this; exact this
 | false=>have:=f (by simp); rw [Ac.same qa c] at this; exact this
theorem xI {nc:List Mon} {R:List Nat} {oh ph:List Value} {d:Nat} {p:Prop} [Decidable p] (qa:hc fr d (.bool (decide p))) (a:Ac fr d (.bool true) oh) (b:Ac fr d (.bool false) ph)
  (c:p→We P ops Q nc R oh ds w) (e:¬ p→We P ops Q nc R ph ds w):We P ops Q nc R fr ds w :=
 yC qa a b (fun h=>c (of_decide_eq_true h)) (fun h=>e fun f=>h (decide_eq_true f))
end
end Go.bc
namespace Go.Dc
open Go.bc Go.RowKit
section
variable {P:Program} {Q:Exit→Act→World→Prop} {K:List Value→List Deferred→World→Prop} {fr Ca:List Value} {ds:List Deferred} {w:World}
variable {dst:Option Tmp} {ty:TypeId} {pos:String} {after:Array Edge} {g:Option (Nat×Bool)}
variable {J:World} {rs sc:List Wb} {μ na:M}
variable {T:TypeId} {d:TypeDesc} {Gf:Bool} {vd:List Value} {n m:Nat}
theorem FC {t ty:TypeId} {sz bytes:Nat} (b:P.underlying t=some (.slice T)) (e:Lc P T Gf vd sz bytes) {v:Value} {xs:List Value} (f:Row w v T sz n xs) {a:Option Addr} {c:Nat} :
  (Builtin.append_ #[t,t] ty #[v,.slice a 0 c]).run P w=.ok v w:=by
 have d:=e.sizeOf (w:=w)
 rcases f.2 with ⟨rfl,rfl⟩ | ⟨g,o,cap,cur,rfl,i,h,j,k,l⟩
 ·cases a <;> simp [Builtin.append_,run_underlying b,d,Builtin.lenOf,Builtin.firstCells,loadCells,loadCellsFrom]
 ·cases a <;> simp [Builtin.append_,run_underlying b,d,Builtin.lenOf,Builtin.firstCells,h,storeCells,loadCells,loadCellsFrom]
theorem JB {α:Type} [cb α] {t:TypeId} {s x:Operand} {v:Value} {bytes k c:Nat} {a:Option Addr} {cells news:List Value} {l ys Ia:List α} (j:P.underlying t=some (.slice T)) (m:Lc P T Gf vd (cb.sz α) bytes) (u:vd.length=cb.sz α)
  (n:wb fr s v) (p:wb fr x (.slice a ys.length c)) (f:ka μ J w rs) (qa:hc rs k (.row v T (cb.sz α) l.length cells)) (y:ys≠[]→∃ b o,a=some ⟨b,o,none⟩∧dd μ b o news) (d:pa μ news ys) (Ul:app l ys=some Ia) (z:bytes≤4096)
  (h:∀ i w' sc,Ac rs k (.row i T (cb.sz α) Ia.length (cells++news)) sc→ka μ J w' sc→Kg fr dst i fun Ca=>K Ca ds w') :
  Zd P (Oper.mk dst (.call { callee:=.builtin .append,args:=#[s,x],argTypes:=#[t,t] }) ty pos after g) fr ds w K Q:=by
 obtain ⟨q,A⟩:=Qv Ul
 by_cases r:ys=[]
 ·subst r
  obtain rfl:news=[]:=d
  have B:Row w v T (cb.sz α) l.length cells:=f.get qa
  obtain ⟨Ca,ya⟩:=jh fr dst v
  have C:=h v w rs (by
   have:Ia.length=l.length:=by simpa using q
   rw [this,List.append_nil]
   unfold Ac
   obtain ⟨D,e⟩:=List.getElem?_eq_some_iff.1 (show rs[k]?=_ from qa)
   rw [← e]
   exact List.set_getElem_self D) f
  refine ig (v:=v) (w':=w) ?_ ya (C Ca ya)
  have sa:=n ds
  have E:=p ds
  have d:=FC (P:=P) (ty:=ty) (a:=a) (c:=c) j m B
  simp [execOp,resolve,invoke,builtin,sa,E,d]
 ·obtain ⟨b,o,rfl,F⟩:=y r
  exact yx j m (by simp [u,cb.pos]) n p f qa (F _ f.a) d.len d.si ⟨A,z⟩ fun i w' sc G=>h i w' sc (by rw [q]; exact G)
end
end Go.Dc
