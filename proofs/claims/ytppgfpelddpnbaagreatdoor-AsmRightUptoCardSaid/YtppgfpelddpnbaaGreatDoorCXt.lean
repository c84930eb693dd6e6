/- Texts of Xt. -/
import Derived.Test.YtppgfpelddpnbaaGreatDoorCWk
import Derived.LoopN
import Derived.KernelRfl
set_option linter.unusedSimpArgs false
set_option linter.unusedVariables false
set_option linter.unusedSectionVars false
namespace Go.Xt
open Go.Wk Go.RowKit
abbrev M:=World→Prop
def Le (μ μ':M):Prop:=∀ w,μ' w→μ w
theorem Le.r {μ:M}:Le μ μ:=fun _ h=>h
theorem Le.t {a b c:M} (h:Le a b) (k:Le b c):Le a c:=fun w x=>h w (k w x)
abbrev Sq (μ:M) (w0 w:World) (rs:List Res):Prop:=Sep (fun _=>False) (fun _=>True) w0 w rs μ
def At (μ:M) (b o:Nat) (cs:List Value):Prop:=∀ w,μ w→CellsAt w b o cs
theorem At.up {μ μ':M} {b o:Nat} {cs:List Value} (h:At μ b o cs) (l:Le μ μ'):At μ' b o cs:=fun w k=>h w (l w k)
class Mo (α:Type) where
 sz:Nat
 pos:0<sz
 cs:M→List Value→α→Prop
 ln:∀ {μ:M} {l:List Value} {x:α},cs μ l x→l.length=sz
 up:∀ {μ μ':M} {l:List Value} {x:α},Le μ μ'→cs μ l x→cs μ' l x
 cv:∀ {μ:M} {l:List Value} {x:α},cs μ l x→l.all cellV=true
structure SlR {α:Type} (sz:Nat) (R:List Value→α→Prop) (μ:M) (a:Option Addr) (c:Nat) (xs:List α):Prop where
 le:xs.length≤c
 cap:c≤maxLen
 el:xs=[]∨∃ b o,a=some ⟨b,o,none⟩∧∃ g:Nat→List Value,∀ i x,xs[i]?=some x→At μ b (o+i*sz) (g i)∧R (g i) x
abbrev Sl {α:Type} [Mo α] (μ:M) (a:Option Addr) (c:Nat) (xs:List α):Prop:=SlR (Mo.sz α) (Mo.cs μ) μ a c xs
theorem SlR.imp {α:Type} {sz:Nat} {R R':List Value→α→Prop} {μ μ':M} {a:Option Addr} {c:Nat} {xs:List α} (h:SlR sz R μ a c xs) (l:Le μ μ') (hr:∀ (i:Nat) (cs:List Value) (x:α),xs[i]?=some x→R cs x→R' cs x):SlR sz R' μ' a c xs where
 le:=h.le
 cap:=h.cap
 el:=by
  rcases h.el with h | ⟨b,o,ha,g,hg⟩
  ·exact .inl h
  ·exact .inr ⟨b,o,ha,g,fun i x hx=>⟨(hg i x hx).1.up l,hr i _ x hx (hg i x hx).2⟩⟩
theorem Sl.up {α:Type} [Mo α] {μ μ':M} {a:Option Addr} {c:Nat} {xs:List α} (h:Sl μ a c xs) (l:Le μ μ'):Sl μ' a c xs:=SlR.imp h l fun _ _ _ _=>Mo.up l
theorem Sl.nil {α:Type} [Mo α] {μ:M} {a:Option Addr}:Sl (α:=α) μ a 0 []:=⟨by simp,by simp,.inl rfl⟩
theorem Sl.len {α:Type} {sz:Nat} {R:List Value→α→Prop} {μ:M} {a:Option Addr} {c:Nat} {xs:List α} (h:SlR sz R μ a c xs):xs.length≤9223372036854775807:=Nat.le_trans h.le h.cap
instance:Mo Int where
 sz:=1
 pos:=by decide
 cs _ l x:=l=[.int .i64 x]
 ln h:=by rw [h]; rfl
 up _ h:=h
 cv h:=by rw [h]; rfl
instance:Mo Bool where
 sz:=1
 pos:=by decide
 cs _ l x:=l=[.bool x]
 ln h:=by rw [h]; rfl
 up _ h:=h
 cv h:=by rw [h]; rfl
instance:Mo (List UInt8) where
 sz:=1
 pos:=by decide
 cs _ l x:=l=[S x]
 ln h:=by rw [h]; rfl
 up _ h:=h
 cv h:=by rw [h]; rfl
def i64 (n:Int):Option Int:=if -9223372036854775808≤n∧n≤9223372036854775807 then some n else none
def at_ {α:Type} (l:List α) (i:Int):Option α:=if 0≤i then l[i.toNat]? else none
def cut {α:Type} (l:List α) (i j:Int):Option (List α):=if 0≤i∧i≤j∧j≤l.length then some ((l.take j.toNat).drop i.toNat) else none
def cat (a b:List UInt8):Option (List UInt8):=if a.length+b.length≤9223372036854775807 then some (a++b) else none
def app {α:Type} (l:List α) (xs:List α):Option (List α):=if l.length+xs.length≤4294967296 then some (l++xs) else none
theorem bI {α β:Type} {o:Option α} {f:α→Option β} {r:β} (h:Option.bind o f=some r):∃ x,o=some x∧f x=some r:=Option.bind_eq_some_iff.1 h
theorem iT {α:Type} {c:Prop} [Decidable c] {x y:α} {r:α} (hc:c) (h:(if c then x else y)=r):x=r:=by rwa [if_pos hc] at h
theorem iF {α:Type} {c:Prop} [Decidable c] {x y:α} {r:α} (hc:¬ c) (h:(if c then x else y)=r):y=r:=by rwa [if_neg hc] at h
theorem i64_eq {n x:Int} (h:i64 n=some x):x=n∧-9223372036854775808≤n∧n≤9223372036854775807:=by
 unfold i64 at h
 split at h
 ·rename_i hc
  exact ⟨(Option.some.inj h).symm,hc⟩
 ·cases h
theorem i64_wrap {n x:Int} (h:i64 n=some x):IntKind.i64.wrap n=x:=by
 obtain ⟨rfl,h1,h2⟩:=i64_eq h
 exact wr (by omega)
theorem at_eq {α:Type} {l:List α} {i:Int} {x:α} (h:at_ l i=some x):0≤i∧i<l.length∧l[i.toNat]?=some x:=by
 unfold at_ at h
 split at h
 ·rename_i hc
  refine ⟨hc,?_,h⟩
  have:=(List.getElem?_eq_some_iff.1 h).1
  omega
 ·cases h
theorem cut_eq {α:Type} {l ys:List α} {i j:Int} (h:cut l i j=some ys):(0≤i∧i≤j∧j≤l.length)∧ys=(l.take j.toNat).drop i.toNat:=by
 unfold cut at h
 split at h
 ·rename_i hc
  exact ⟨hc,(Option.some.inj h).symm⟩
 ·cases h
theorem cat_eq {a b c:List UInt8} (h:cat a b=some c):c=a++b∧a.length+b.length≤9223372036854775807:=by
 unfold cat at h
 split at h
 ·rename_i hc
  exact ⟨(Option.some.inj h).symm,hc⟩
 ·cases h
theorem app_eq {α:Type} {a b c:List α} (h:app a b=some c):c=a++b∧a.length+b.length≤4294967296:=by
 unfold app at h
 split at h
 ·rename_i hc
  exact ⟨(Option.some.inj h).symm,hc⟩
 ·cases h
structure Elv (v:Value) (sz:Nat) (i:Int) (b o:Nat):Prop where
 out:∃ o0 n c,v=.slice (some ⟨b,o0,none⟩) n c∧0≤i∧i<n∧o0+i.toNat*sz=o
theorem SlR.elem {α:Type} {sz:Nat} {R:List Value→α→Prop} {μ:M} {a:Option Addr} {c:Nat} {xs:List α} {i:Int} {x:α} (h:SlR sz R μ a c xs) (g:at_ xs i=some x) :
  ∃ b o cs,Elv (.slice a xs.length c) sz i b o∧At μ b o cs∧R cs x:=by
 obtain ⟨h0,h1,h2⟩:=at_eq g
 rcases h.el with rfl | ⟨b,o,rfl,f,hf⟩
 ·simp at h2
 ·exact ⟨b,_,f i.toNat,⟨o,_,_,rfl,h0,h1,rfl⟩,(hf _ _ h2).1,(hf _ _ h2).2⟩
def Rw {α:Type} [Mo α] (μ:M):List Value→List α→Prop
 | cells,[]=>cells=[]
 | cells,x::l=>∃ cs t,cells=cs++t∧Mo.cs μ cs x∧Rw μ t l
theorem Rw.len {α:Type} [Mo α] {μ:M}:∀ {l:List α} {cells:List Value},Rw μ cells l→cells.length=l.length*Mo.sz α
 | [],cells,h=>by rw [Rw] at h; simp [h]
 | x::l,cells,h=>by
  rw [Rw] at h
  obtain ⟨cs,t,rfl,h1,h2⟩:=h
  simp [Rw.len h2,Mo.ln h1,Nat.add_mul,Nat.add_comm]
theorem Rw.up {α:Type} [Mo α] {μ μ':M} (hl:Le μ μ'):∀ {l:List α} {cells:List Value},Rw μ cells l→Rw μ' cells l
 | [],cells,h=>by rw [Rw] at h ⊢; exact h
 | x::l,cells,h=>by
  rw [Rw] at h ⊢
  obtain ⟨cs,t,h0,h1,h2⟩:=h
  exact ⟨cs,t,h0,Mo.up hl h1,Rw.up hl h2⟩
theorem Rw.cat {α:Type} [Mo α] {μ:M} {l':List α} {cells':List Value} (k:Rw μ cells' l'):∀ {l:List α} {cells:List Value},Rw μ cells l→Rw μ (cells++cells') (l++l')
 | [],cells,h=>by rw [Rw] at h; subst h; exact k
 | x::l,cells,h=>by
  rw [Rw] at h
  obtain ⟨cs,t,rfl,h1,h2⟩:=h
  rw [List.cons_append,Rw]
  exact ⟨cs,t++cells',by simp,h1,Rw.cat k h2⟩
theorem Rw.nil {α:Type} [Mo α] {μ:M}:Rw μ [] ([]:List α):=rfl
theorem Rw.one {α:Type} [Mo α] {μ:M} {cs:List Value} {x:α} (h:Mo.cs μ cs x):Rw μ cs [x]:=⟨cs,[],by simp,h,rfl⟩
theorem Rw.cons {α:Type} [Mo α] {μ:M} {cs t:List Value} {x:α} {l:List α} (h:Mo.cs μ cs x) (k:Rw μ t l):Rw μ (cs++t) (x::l):=⟨cs,t,rfl,h,k⟩
theorem Rw.cv {α:Type} [Mo α] {μ:M}:∀ {l:List α} {cells:List Value},Rw μ cells l→cells.all cellV=true
 | [],cells,h=>by rw [Rw] at h; simp [h]
 | x::l,cells,h=>by
  rw [Rw] at h
  obtain ⟨cs,t,rfl,h1,h2⟩:=h
  rw [List.all_append,Mo.cv h1,Rw.cv h2]; rfl
theorem Rw.get {α:Type} [Mo α] {μ:M}:∀ {l:List α} {cells:List Value} {i:Nat} {x:α},Rw μ cells l→l[i]?=some x→Mo.cs μ ((cells.drop (i*Mo.sz α)).take (Mo.sz α)) x
 | [],cells,i,x,h,hx=>by simp at hx
 | y::l,cells,i,x,h,hx=>by
  rw [Rw] at h
  obtain ⟨cs,t,rfl,h1,h2⟩:=h
  cases i with
  | zero=>simp at hx; subst hx; simp [← Mo.ln h1]; exact h1
  | succ i =>
   simp at hx
   have:=Rw.get h2 hx
   have e:(i+1)*Mo.sz α=cs.length+i*Mo.sz α:=by rw [Nat.add_mul,Mo.ln h1]; omega
   rw [e,← List.drop_drop]
   simpa using this
theorem Sl.cells {α:Type} [Mo α] {μ:M} {a:Option Addr} {c:Nat}:∀ {xs:List α},Sl μ a c xs→∃ cells,Rw μ cells xs∧(xs≠[]→∃ b o,a=some ⟨b,o,none⟩∧At μ b o cells):=by
 intro xs h
 rcases h.el with rfl | ⟨b,o,rfl,g,hg⟩
 ·exact ⟨[],rfl,fun h=>absurd rfl h⟩
 ·have key:∀ (l:List α) (k:Nat),xs.drop k=l→∃ cells,Rw μ cells l∧At μ b (o+k*Mo.sz α) cells:=by
   intro l
   induction l with
   | nil=>intro k _; exact ⟨[],rfl,fun w _ j v hj=>by simp at hj⟩
   | cons x l ih =>
    intro k hk
    have hx:xs[k]?=some x:=by
     have:=congrArg (fun l=>l[0]?) hk
     simpa using this
    obtain ⟨cells,h1,h2⟩:=ih (k+1) (by rw [← List.tail_drop,hk]; rfl)
    obtain ⟨h3,h4⟩:=hg k x hx
    refine ⟨g k++cells,Rw.cons h4 h1,fun w hw j v hj=>?_⟩
    rcases Nat.lt_or_ge j (g k).length with hl | hl
    ·rw [List.getElem?_append_left hl] at hj
     exact h3 w hw j v hj
    ·rw [List.getElem?_append_right hl] at hj
     have:=h2 w hw _ v hj
     rw [Mo.ln h4] at this hl
     rw [show o+(k+1)*Mo.sz α+(j - Mo.sz α)=o+k*Mo.sz α+j by rw [Nat.add_mul]; omega] at this
     exact this
  obtain ⟨cells,h1,h2⟩:=key xs 0 rfl
  exact ⟨cells,h1,fun _=>⟨b,o,rfl,by simpa using h2⟩⟩
section
variable {P:Program} {Q:Exit→Act→World→Prop} {K:List Value→List Deferred→World→Prop} {fr fr':List Value} {ds:List Deferred} {w:World}
variable {dst:Option Tmp} {ty:TypeId} {pos:String} {after:Array Edge} {g:Option (Nat×Bool)}
variable {w0:World} {rs rs':List Res} {μ:M}
variable {T:TypeId} {d:TypeDesc} {ag:Bool} {zc:List Value} {n m:Nat}
theorem ccutE {c:Code} (Tl:List Nat) (hT:Tl.Nodup) (Φ:List Mk→World→Prop) (hΦ:∀ m w,Φ m w→opens m=Tl)
  (h:CW P c (Exit.then (fun a' w'=>∃ m fr',a'=F fr' ds∧Ag m fr fr'∧Φ m w') Q) fr ds w)
  (k:∀ m t w,Φ m w→Q .normal (F (mrg t m fr) ds) w):CW P c Q fr ds w:=⟨
 wp_mono h.out fun e a w' hq=>by
  cases e with
  | normal =>
   obtain ⟨m,fr',rfl,hag,hI⟩:=hq
   obtain ⟨t',ht'⟩:=hag.ex (by rw [hΦ m w' hI]; exact hT)
   have:=k m t' w' hI
   rw [← ht'] at this
   exact this
  | exit id=>exact hq
  | goto l=>exact hq
  | ret=>exact hq
  | panic ch=>exact hq
  | outgrown=>exact hq⟩
theorem cloopE {c:Code} (Tl:List Nat) (hT:Tl.Nodup) (Φ:Nat→List Mk→World→Prop) (hΦ:∀ n m w,Φ n m w→opens m=Tl) (n0:Nat) (m0:List Mk) (h0:Ag m0 fr fr) (hJ:Φ n0 m0 w)
  (round:∀ n m t w,Φ n m w→CW P c (Exit.then (fun a' w'=>∃ n' m' fr',a'=F fr' ds∧Ag m' fr fr'∧Φ n' m' w'∧n'<n) Q) (mrg t m fr) ds w):CW P (.loop c) Q fr ds w:=by
 refine cloop (α:={ p:Nat×List Mk // opens p.2=Tl }) Tl hT (fun p=>p.1.2) (fun p=>p.2) (fun p w=>Φ p.1.1 p.1.2 w) (fun p _=>p.1.1) ⟨(n0,m0),hΦ n0 m0 w hJ⟩ h0 hJ fun p t w hp=>?_
 refine (round p.1.1 p.1.2 t w hp).mono (then_mono fun a w' ⟨n',m',fr',h1,h2,h3,h4⟩=>⟨⟨(n',m'),hΦ n' m' w' h3⟩,fr',h1,h2,h3,h4⟩)
theorem cifb {c:Operand} {x y:Code} {b:Bool} (hc:Ev fr c (.bool b)) (h1:b=true→CW P x Q fr ds w) (h2:¬ b=true→CW P y Q fr ds w):CW P (.cond c x y) Q fr ds w :=
 cif hc h1 fun h=>h2 (by rw [h]; simp)
theorem cifnb {c:Operand} {x y:Code} {b:Bool} (hc:Ev fr c (.bool (!b))) (h1:¬ b=true→CW P x Q fr ds w) (h2:b=true→CW P y Q fr ds w):CW P (.cond c x y) Q fr ds w :=
 cif hc (fun h=>h1 (by simpa using h)) fun h=>h2 (by simpa using h)
theorem wspb {ops:Array Oper} {l:List Oper} {frt frf:List Value} {d:Nat} {b:Bool} (hl:Lk fr d (.bool b)) (ht:Pt fr d (.bool true) frt) (hf:Pt fr d (.bool false) frf)
  (h1:b=true→WL P ops Q l frt ds w) (h0:¬ b=true→WL P ops Q l frf ds w):WL P ops Q l fr ds w:=wsp hl ht hf h1 fun h=>h0 (by rw [h]; simp)
theorem wspnb {ops:Array Oper} {l:List Oper} {frt frf:List Value} {d:Nat} {b:Bool} (hl:Lk fr d (.bool (!b))) (ht:Pt fr d (.bool true) frt) (hf:Pt fr d (.bool false) frf)
  (h1:¬ b=true→WL P ops Q l frt ds w) (h0:b=true→WL P ops Q l frf ds w):WL P ops Q l fr ds w:=wsp hl ht hf (fun h=>h1 (by simpa using h)) fun h=>h0 (by simpa using h)
inductive Bg:List Res→Nat→List Res→Prop where
 | z {rs:List Res}:Bg rs 0 rs
 | s {a r:Res} {rs rs':List Res} {k:Nat} (h:Bg rs k (r::rs')):Bg (a::rs) (k+1) (r::a::rs')
theorem Bg.perm {k:Nat} {rs rs':List Res} (h:Bg rs k rs'):rs.Perm rs':=by
 induction h with
 | z=>exact .refl _
 | s _ ih=>exact (ih.cons _).trans (.swap _ _ _)
theorem _root_.Go.Wk.Sep.bg {k:Nat} {S S0:Nat→Prop} {A:World→Prop} (h:Sep S S0 w0 w rs A) (hp:Bg rs k rs'):Sep S S0 w0 w rs' A where
 keeps:=h.keeps
 all r hr:=h.all r (hp.perm.mem_iff.2 hr)
 dis:=(hp.perm.filterMap _).nodup_iff.1 h.dis
 new b hb:=h.new b ((hp.perm.filterMap _).mem_iff.2 hb)
 imm:=h.imm.mono fun k _ hs=>⟨hs.1,fun hm=>hs.2 ((hp.perm.filterMap Res.block).mem_iff.2 hm)⟩
theorem _root_.Go.Wk.Sep.frz {r:Res} {B:World→Prop} (h:Sq μ w0 w (r::rs)) (hB:∀ w,r.holds w→B w):Sq (fun w=>μ w∧B w) w0 w rs :=
 Sep.freeze h (d0 (α:=Res)) Rm.z (fun _ _=>.inl trivial) hB
theorem _root_.Go.Wk.Sep.frzRow {α:Type} [Mo α] {v:Value} {cells:List Value} {l:List α} (h:Sq μ w0 w (.row v T (Mo.sz α) n cells::rs)) (hr:Rw μ cells l) (hn:l.length=n) :
  ∃ μ' a c,v=.slice a l.length c∧Le μ μ'∧Sl μ' a c l∧Sq μ' w0 w rs:=by
 have hrow:Row w v T (Mo.sz α) n cells:=h.all _ (List.mem_cons_self ..)
 have h':=Sep.frz (B:=fun w=>Row w v T (Mo.sz α) n cells) h fun w hw=>hw
 have hle:Le μ (fun w=>μ w∧Row w v T (Mo.sz α) n cells):=fun w hw=>hw.1
 rcases hrow.2 with ⟨rfl,rfl⟩ | ⟨g,o,cap,cur,rfl,hg,h1,h2,h3,h4⟩
 ·obtain rfl:=List.eq_nil_of_length_eq_zero hn
  exact ⟨_,none,0,rfl,hle,Sl.nil,h'⟩
 ·subst hn
  refine ⟨_,some ⟨g,o,none⟩,cap,rfl,hle,⟨h1,h2,.inr ⟨g,o,rfl,fun i=>(cells.drop (i*Mo.sz α)).take (Mo.sz α),fun i x hx=>⟨?_,?_⟩⟩⟩,h'⟩
  ·intro w2 hw2 j u hj
   obtain ⟨-,hk⟩:=hw2
   have hpos:0<l.length:=by have:=(List.getElem?_eq_some_iff.1 hx).1; omega
   obtain ⟨b,o',c,hv,hc⟩:=hk.some' hpos
   simp at hv
   obtain ⟨⟨rfl,rfl⟩,rfl⟩:=hv
   have hjl:j<Mo.sz α:=by
    have:=(List.getElem?_eq_some_iff.1 hj).1
    simp at this; omega
   rw [List.getElem?_take_of_lt hjl,List.getElem?_drop] at hj
   have:=hc _ u hj
   rw [← Nat.add_assoc] at this
   exact this
  ·exact Mo.up hle (hr.get hx)
theorem _root_.Go.Wk.Sep.frzBlk {α:Type} [Mo α] {b:Nat} {cells:List Value} {l:List α} (h:Sq μ w0 w (.blk b T cells::rs)) (hr:Rw μ cells l) (hlen:l.length≤maxLen) :
  ∃ μ',Le μ μ'∧Sl μ' (some ⟨b,0,none⟩) l.length l∧Sq μ' w0 w rs:=by
 have h':=Sep.frz (B:=fun w=>Blk w b T cells) h fun w hw=>hw
 have hle:Le μ (fun w=>μ w∧Blk w b T cells):=fun w hw=>hw.1
 refine ⟨_,hle,⟨Nat.le_refl _,hlen,.inr ⟨b,0,rfl,fun i=>(cells.drop (i*Mo.sz α)).take (Mo.sz α),fun i x hx=>⟨?_,Mo.up hle (hr.get hx)⟩⟩⟩,h'⟩
 intro w2 hw2 j u hj
 have hjl:j<Mo.sz α:=by
  have:=(List.getElem?_eq_some_iff.1 hj).1
  simp at this; omega
 rw [List.getElem?_take_of_lt hjl,List.getElem?_drop] at hj
 have:=hw2.2.cells _ u hj
 rw [Nat.zero_add] at this ⊢
 exact this
theorem _root_.Go.Wk.Sep.frzAt {b:Nat} {cells:List Value} (h:Sq μ w0 w (.blk b T cells::rs)):∃ μ',Le μ μ'∧At μ' b 0 cells∧Sq μ' w0 w rs :=
 ⟨_,fun _ hw=>hw.1,fun _ hw=>hw.2.cells,Sep.frz (B:=fun w=>Blk w b T cells) h fun _ hw=>hw⟩
theorem _root_.Go.Wk.Sep.blkRow {sz:Nat} {b k:Nat} {cells:List Value} {S S0:Nat→Prop} {A:World→Prop} (h:Sep S S0 w0 w rs A) (hl:Lk rs k (.blk b T cells)) (hn:cells.length=n*sz) (hlen:n≤maxLen)
  (hp:Pt rs k (.row (.slice (some ⟨b,0,none⟩) n n) T sz n cells) rs'):Sep S S0 w0 w rs' A:=by
 have hb:Blk w b T cells:=h.get hl
 refine h.put (b:=b) hl rfl rfl hp ⟨hn,.inr ⟨b,0,n,⟨cells⟩,rfl,hb,Nat.le_refl _,hlen,by simp [hn],by simp [← hn]⟩⟩ (Keeps.refl _)
theorem u_iax {x y:Operand} {v:Value} {b o sz:Nat} {k:IntKind} {i:Int} {e:TypeId} (hT:P.underlying T=some (.slice e)) (hE:TI P e ag zc sz m) (hx:Ev fr x v) (hy:Ev fr y (.int k i)) (he:Elv v sz i b o):PU P (Oper.mk dst (.indexAddr T x y) ty pos after g) fr ((.pointer (some ⟨b,o,none⟩))):=by
 obtain ⟨o0,n,c,rfl,h0,h1,h2⟩:=he.out
 exact u_ia hT hE hx hy ⟨h0,h1⟩ h2
theorem s_iax {x y:Operand} {v:Value} {b o sz:Nat} {k:IntKind} {i:Int} {e:TypeId} (hT:P.underlying T=some (.slice e)) (hE:TI P e ag zc sz m) (hx:Ev fr x v) (hy:Ev fr y (.int k i)) (he:Elv v sz i b o) (hp:Dt fr dst ((.pointer (some ⟨b,o,none⟩))) fr') (h:K fr' ds w):OW P (Oper.mk dst (.indexAddr T x y) ty pos after g) fr ds w K Q:=su (u_iax hT hE hx hy he) hp h
theorem u_addc {x y:Operand} {t t':TypeId} {a b c:Int} (hx:Ev fr x (.int .i64 a)) (hy:Ev fr y (.int .i64 b)) (h:i64 (a+b)=some c):PU P (Oper.mk dst (.binOp .add t x y t') ty pos after g) fr ((.int .i64 c)):=u_add hx hy (i64_wrap h)
theorem s_addc {x y:Operand} {t t':TypeId} {a b c:Int} (hx:Ev fr x (.int .i64 a)) (hy:Ev fr y (.int .i64 b)) (h:i64 (a+b)=some c) (hp:Dt fr dst ((.int .i64 c)) fr') (k:K fr' ds w):OW P (Oper.mk dst (.binOp .add t x y t') ty pos after g) fr ds w K Q:=su (u_addc hx hy h) hp k
theorem u_subc {x y:Operand} {t t':TypeId} {a b c:Int} (hx:Ev fr x (.int .i64 a)) (hy:Ev fr y (.int .i64 b)) (h:i64 (a - b)=some c):PU P (Oper.mk dst (.binOp .sub t x y t') ty pos after g) fr ((.int .i64 c)):=u_sub hx hy (i64_wrap h)
theorem s_subc {x y:Operand} {t t':TypeId} {a b c:Int} (hx:Ev fr x (.int .i64 a)) (hy:Ev fr y (.int .i64 b)) (h:i64 (a - b)=some c) (hp:Dt fr dst ((.int .i64 c)) fr') (k:K fr' ds w):OW P (Oper.mk dst (.binOp .sub t x y t') ty pos after g) fr ds w K Q:=su (u_subc hx hy h) hp k
theorem u_catc {x y:Operand} {t t':TypeId} {a b c:List UInt8} (hx:Ev fr x (S a)) (hy:Ev fr y (S b)) (h:cat a b=some c):PU P (Oper.mk dst (.binOp .add t x y t') ty pos after g) fr (S c):=by
 obtain ⟨rfl,hl⟩:=cat_eq h
 exact u_cat hx hy hl
theorem s_catc {x y:Operand} {t t':TypeId} {a b c:List UInt8} (hx:Ev fr x (S a)) (hy:Ev fr y (S b)) (h:cat a b=some c) (hp:Dt fr dst (S c) fr') (k:K fr' ds w):OW P (Oper.mk dst (.binOp .add t x y t') ty pos after g) fr ds w K Q:=su (u_catc hx hy h) hp k
structure Slc (v:Value) (sz:Nat) (i j:Option Int) (v':Value):Prop where
 out:∃ a n c,v=.slice a n c∧0≤i.getD 0∧i.getD 0≤j.getD n∧j.getD n≤c∧v'=.slice (if c=(i.getD 0).toNat then a else a.map (·.add ((i.getD 0).toNat*sz))) ((j.getD n).toNat - (i.getD 0).toNat) (c - (i.getD 0).toNat)
inductive Ob (fr:List Value):Option Operand→Option Int→Prop where
 | n:Ob fr none none
 | s {x:Operand} {i:Int} (h:Ev fr x (.int .i64 i)):Ob fr (some x) (some i)
theorem u_slc {x:Operand} {lo up:Option Operand} {v v':Value} {sz:Nat} {i j:Option Int} {e:TypeId} (hT:P.underlying T=some (.slice e)) (hE:TI P e ag zc sz m) (hx:Ev fr x v) (hi:Ob fr lo i) (hj:Ob fr up j) (he:Slc v sz i j v'):PU P (Oper.mk dst (.slice T x lo up none) ty pos after g) fr v':=by
 obtain ⟨a,n,c,rfl,h0,h1,h2,rfl⟩:=he.out
 refine ⟨fun ds w=>?_⟩
 cases hi with
 | n =>
  cases hj with
  | n =>
   simp at h1 h2
   simp [execOp,hx ds,Instr.sliceAt,Instr.slice,run_underlying hT,Instr.sliceBounds,hE.sizeOf]
   try rfl
  | s h =>
   rename_i y i
   simp at h1 h2
   have e1:i≤(c:Int):=h2
   simp [execOp,hx ds,h ds,Instr.sliceAt,Instr.slice,run_underlying hT,Instr.sliceBounds,Instr.sliceBound,asIntOf,hE.sizeOf,h1,e1]
   try rfl
 | s h =>
  rename_i y i
  cases hj with
  | n =>
   simp at h0 h1 h2
   simp [execOp,hx ds,h ds,Instr.sliceAt,Instr.slice,run_underlying hT,Instr.sliceBounds,Instr.sliceBound,asIntOf,hE.sizeOf,h0,h1]
   try rfl
  | s h' =>
   rename_i y' i'
   simp at h0 h1 h2
   have e1:0≤i':=by omega
   have e2:(i'.toNat:Int)=i':=by omega
   simp [execOp,hx ds,h ds,h' ds,Instr.sliceAt,Instr.slice,run_underlying hT,Instr.sliceBounds,Instr.sliceBound,asIntOf,hE.sizeOf,h0,h1,h2,e1,e2]
   try rfl
theorem s_slc {x:Operand} {lo up:Option Operand} {v v':Value} {sz:Nat} {i j:Option Int} {e:TypeId} (hT:P.underlying T=some (.slice e)) (hE:TI P e ag zc sz m) (hx:Ev fr x v) (hi:Ob fr lo i) (hj:Ob fr up j) (he:Slc v sz i j v') (hp:Dt fr dst v' fr') (k:K fr' ds w):OW P (Oper.mk dst (.slice T x lo up none) ty pos after g) fr ds w K Q:=su (u_slc hT hE hx hi hj he) hp k
theorem Sl.slc {α:Type} [Mo α] {μ:M} {a:Option Addr} {c:Nat} {xs ys:List α} {i j:Option Int} (h:Sl μ a c xs) (g:cut xs (i.getD 0) (j.getD xs.length)=some ys) :
  ∃ a' c',Slc (.slice a xs.length c) (Mo.sz α) i j (.slice a' ys.length c')∧Sl μ a' c' ys:=by
 obtain ⟨⟨h0,h1,h2⟩,rfl⟩:=cut_eq g
 have hle:=h.le
 refine ⟨(if c=(i.getD 0).toNat then a else a.map (·.add ((i.getD 0).toNat*Mo.sz α))),c - (i.getD 0).toNat,⟨a,xs.length,c,rfl,h0,h1,by omega,?_⟩,?_⟩
 ·rw [show ((xs.take (j.getD ↑xs.length).toNat).drop (i.getD 0).toNat).length=(j.getD ↑xs.length).toNat - (i.getD 0).toNat by simp; omega]
 ·refine ⟨by simp; omega,by have:=h.cap; omega,?_⟩
  rcases h.el with rfl | ⟨b,o,rfl,f,hf⟩
  ·left; simp
  ·by_cases hc:c=(i.getD 0).toNat
   ·left
    rw [List.drop_eq_nil_iff]
    simp
    omega
   ·right
    rw [if_neg hc]
    refine ⟨b,o+(i.getD 0).toNat*Mo.sz α,by simp [add_addr],fun k=>f ((i.getD 0).toNat+k),fun k x hx=>?_⟩
    rw [List.getElem?_drop] at hx
    have hlt:(i.getD 0).toNat+k<(j.getD ↑xs.length).toNat:=by
     have:=(List.getElem?_eq_some_iff.1 hx).1
     simp at this; omega
    rw [List.getElem?_take_of_lt hlt] at hx
    have:=hf _ x hx
    rw [Nat.add_mul,← Nat.add_assoc] at this
    exact this
end
end Go.Xt
namespace Go.Xt
open Go.Wk Go.RowKit
section
variable {P:Program} {Q:Exit→Act→World→Prop} {K:List Value→List Deferred→World→Prop} {fr fr':List Value} {ds:List Deferred} {w:World}
variable {dst:Option Tmp} {ty:TypeId} {pos:String} {after:Array Edge} {g:Option (Nat×Bool)}
variable {w0:World} {rs rs':List Res} {μ:M}
variable {T:TypeId} {d:TypeDesc} {ag:Bool} {zc:List Value} {n m:Nat}
theorem _root_.Go.Wk.Row.cellV {v:Value} {sz n:Nat} {xs:List Value} (h:Row w v T sz n xs):cellV v=true:=by
 rcases h.2 with ⟨rfl,_⟩ | ⟨g,o,cap,cur,rfl,_⟩ <;> rfl
theorem u_mkfn {f:Nat} {xs ys:List Operand} {vs us:List Value} (hs:Evs fr xs vs) (hu:Evs fr ys us):PU P (Oper.mk dst (.makeFunc (.func f) ⟨xs⟩ ⟨ys⟩) ty pos after g) fr (.func (.func f) ⟨vs⟩ ⟨us⟩):=by
 refine ⟨fun ds w=>?_⟩
 have h1:=hs ds
 have h2:=hu ds
 simp [execOp,Instr.makeFunc,h1,h2]
theorem s_mkfn {f:Nat} {xs ys:List Operand} {vs us:List Value} (hs:Evs fr xs vs) (hu:Evs fr ys us) (hp:Dt fr dst (.func (.func f) ⟨vs⟩ ⟨us⟩) fr') (k:K fr' ds w):OW P (Oper.mk dst (.makeFunc (.func f) ⟨xs⟩ ⟨ys⟩) ty pos after g) fr ds w K Q:=su (u_mkfn hs hu) hp k
theorem Rw.app {α:Type} [Mo α] {cells news:List Value} {l xs l':List α} (h:Rw μ cells l) (k:Rw μ news xs) (g:app l xs=some l'):Rw μ (cells++news) l':=by
 obtain ⟨rfl,-⟩:=app_eq g
 exact Rw.cat k h
theorem app_len {α:Type} {l xs l':List α} (g:app l xs=some l'):l'.length=l.length+xs.length∧l.length+xs.length≤4294967296:=by
 obtain ⟨rfl,h⟩:=app_eq g
 exact ⟨by simp,h⟩
theorem s_app1 {α:Type} [Mo α] {t:TypeId} {s x:Operand} {v:Value} {bytes k b mm c:Nat} {cells news:List Value} {l ys l':List α} (ht:P.underlying t=some (.slice T)) (hE:TI P T ag zc (Mo.sz α) bytes) (hz:zc.length=Mo.sz α)
  (hs:Ev fr s v) (hx:Ev fr x (.slice (some ⟨b,0,none⟩) mm c)) (hS:Sq μ w0 w rs) (hl:Lk rs k (.row v T (Mo.sz α) l.length cells)) (hnews:CellsAt w b 0 news) (hr:Rw μ news ys) (hm:ys.length=mm) (gg:app l ys=some l') (hb:bytes≤4096)
  (h:∀ v' w' rs',Pt rs k (.row v' T (Mo.sz α) l'.length (cells++news)) rs'→Sq μ w0 w' rs'→Put fr dst v' fun fr'=>K fr' ds w') :
  OW P (Oper.mk dst (.call { callee:=.builtin .append,args:=#[s,x],argTypes:=#[t,t] }) ty pos after g) fr ds w K Q:=by
 obtain ⟨h1,h2⟩:=app_len gg
 subst hm
 refine s_append ht hE (by simp [hz,Mo.pos]) hs hx hS hl hnews hr.len hr.cv ⟨h2,hb⟩ fun v' w' rs' hp=>h v' w' rs' (by rw [h1]; exact hp)
theorem s_storeA {x y:Operand} {b k:Nat} {cs vs:List Value} (hT:TI P T ag zc n m) (hx:Ev fr x (.pointer (some ⟨b,0,none⟩))) (hy:Ev fr y (.agg ⟨vs⟩)) (hn:vs.length=n) (hvc:vs.all cellV=true)
  {S S0:Nat→Prop} {A:World→Prop} (hS:Sep S S0 w0 w rs A) {T':TypeId} (hl:Lk rs k (.blk b T' cs)) (he:cs.length=n) (hp:Pt rs k (.blk b T' vs) rs')
  (hd:Dt fr dst undef fr') (h:∀ w',Sep S S0 w0 w' rs' A→K fr' ds w'):OW P (Oper.mk dst (.store T x y) ty pos after g) fr ds w K Q:=by
 have key:∀ (vs cs pre:List Value),vs.length=cs.length→Spl (pre++cs) pre.length vs (pre++vs):=by
  intro vs
  induction vs with
  | nil=>intro cs pre h; cases cs with
   | nil=>exact .z
   | cons c cs=>simp at h
  | cons v vs ih =>
   intro cs pre h
   cases cs with
   | nil=>simp at h
   | cons c cs =>
    refine .s (cs1:=pre++v::cs) (by unfold Pt; simp) (by simp) ?_
    have:=ih cs (pre++[v]) (by simpa using h)
    simpa using this
 exact s_store hT hx hy rfl hn hvc hS hl (by simpa using key vs cs [] (by omega)) (by simp) hp hd h
theorem u_build {pl:Array (Nat×Nat)} {xs:List (Nat×Operand)} {out:List Value} (hT:TI P T ag zc n m) (hpl:PL P T pl) (hf:Fl fr pl zc xs out):PU P (Oper.mk dst (.build T ⟨xs⟩) ty pos after g) fr (.agg ⟨out⟩):=by
 refine ⟨fun ds w=>?_⟩
 obtain ⟨z,hz,hc⟩:=hT.zero (w:=w)
 have hr:=hf.run (ds:=ds)
 obtain ⟨fs,hund,hmm⟩:=hpl.out
 have hm:=hmm w
 have hl:((⟨xs⟩:Array (Nat×Operand)).map fun (i,x)=>(i,(F fr ds).eval x)).toList=xs.map fun p=>(p.1,(F fr ds).eval p.2):=by simp
 unfold execOp
 simp only [Instr.build,Sem.run_bind,hz,Result.andThen_ok,run_underlying hund]
 rw [hm]
 simp only [Result.andThen_ok,hc,hl]
 rw [hr]
 simp
end
end Go.Xt
namespace Go.Wk
theorem k10 {α:Type} {a0 a1 a2 a3 a4 a5 a6 a7 a8 a9 v:α} {l:List α} {n:Nat} (h:Lk l n v):Lk (a0::a1::a2::a3::a4::a5::a6::a7::a8::a9::l) (n+10) v:=h
theorem q10 {α:Type} {a0 a1 a2 a3 a4 a5 a6 a7 a8 a9 v:α} {l l':List α} {n:Nat} (h:Pt l n v l'):Pt (a0::a1::a2::a3::a4::a5::a6::a7::a8::a9::l) (n+10) v (a0::a1::a2::a3::a4::a5::a6::a7::a8::a9::l'):=by unfold Pt at *; subst h; rfl
theorem k20 {α:Type} {a0 a1 a2 a3 a4 a5 a6 a7 a8 a9 a10 a11 a12 a13 a14 a15 a16 a17 a18 a19 v:α} {l:List α} {n:Nat} (h:Lk l n v):Lk (a0::a1::a2::a3::a4::a5::a6::a7::a8::a9::a10::a11::a12::a13::a14::a15::a16::a17::a18::a19::l) (n+20) v:=h
theorem q20 {α:Type} {a0 a1 a2 a3 a4 a5 a6 a7 a8 a9 a10 a11 a12 a13 a14 a15 a16 a17 a18 a19 v:α} {l l':List α} {n:Nat} (h:Pt l n v l'):Pt (a0::a1::a2::a3::a4::a5::a6::a7::a8::a9::a10::a11::a12::a13::a14::a15::a16::a17::a18::a19::l) (n+20) v (a0::a1::a2::a3::a4::a5::a6::a7::a8::a9::a10::a11::a12::a13::a14::a15::a16::a17::a18::a19::l'):=by unfold Pt at *; subst h; rfl
theorem k30 {α:Type} {a0 a1 a2 a3 a4 a5 a6 a7 a8 a9 a10 a11 a12 a13 a14 a15 a16 a17 a18 a19 a20 a21 a22 a23 a24 a25 a26 a27 a28 a29 v:α} {l:List α} {n:Nat} (h:Lk l n v):Lk (a0::a1::a2::a3::a4::a5::a6::a7::a8::a9::a10::a11::a12::a13::a14::a15::a16::a17::a18::a19::a20::a21::a22::a23::a24::a25::a26::a27::a28::a29::l) (n+30) v:=h
theorem q30 {α:Type} {a0 a1 a2 a3 a4 a5 a6 a7 a8 a9 a10 a11 a12 a13 a14 a15 a16 a17 a18 a19 a20 a21 a22 a23 a24 a25 a26 a27 a28 a29 v:α} {l l':List α} {n:Nat} (h:Pt l n v l'):Pt (a0::a1::a2::a3::a4::a5::a6::a7::a8::a9::a10::a11::a12::a13::a14::a15::a16::a17::a18::a19::a20::a21::a22::a23::a24::a25::a26::a27::a28::a29::l) (n+30) v (a0::a1::a2::a3::a4::a5::a6::a7::a8::a9::a10::a11::a12::a13::a14::a15::a16::a17::a18::a19::a20::a21::a22::a23::a24::a25::a26::a27::a28::a29::l'):=by unfold Pt at *; subst h; rfl
theorem k40 {α:Type} {a0 a1 a2 a3 a4 a5 a6 a7 a8 a9 a10 a11 a12 a13 a14 a15 a16 a17 a18 a19 a20 a21 a22 a23 a24 a25 a26 a27 a28 a29 a30 a31 a32 a33 a34 a35 a36 a37 a38 a39 v:α} {l:List α} {n:Nat} (h:Lk l n v):Lk (a0::a1::a2::a3::a4::a5::a6::a7::a8::a9::a10::a11::a12::a13::a14::a15::a16::a17::a18::a19::a20::a21::a22::a23::a24::a25::a26::a27::a28::a29::a30::a31::a32::a33::a34::a35::a36::a37::a38::a39::l) (n+40) v:=h
theorem q40 {α:Type} {a0 a1 a2 a3 a4 a5 a6 a7 a8 a9 a10 a11 a12 a13 a14 a15 a16 a17 a18 a19 a20 a21 a22 a23 a24 a25 a26 a27 a28 a29 a30 a31 a32 a33 a34 a35 a36 a37 a38 a39 v:α} {l l':List α} {n:Nat} (h:Pt l n v l'):Pt (a0::a1::a2::a3::a4::a5::a6::a7::a8::a9::a10::a11::a12::a13::a14::a15::a16::a17::a18::a19::a20::a21::a22::a23::a24::a25::a26::a27::a28::a29::a30::a31::a32::a33::a34::a35::a36::a37::a38::a39::l) (n+40) v (a0::a1::a2::a3::a4::a5::a6::a7::a8::a9::a10::a11::a12::a13::a14::a15::a16::a17::a18::a19::a20::a21::a22::a23::a24::a25::a26::a27::a28::a29::a30::a31::a32::a33::a34::a35::a36::a37::a38::a39::l'):=by unfold Pt at *; subst h; rfl
theorem k50 {α:Type} {a0 a1 a2 a3 a4 a5 a6 a7 a8 a9 a10 a11 a12 a13 a14 a15 a16 a17 a18 a19 a20 a21 a22 a23 a24 a25 a26 a27 a28 a29 a30 a31 a32 a33 a34 a35 a36 a37 a38 a39 a40 a41 a42 a43 a44 a45 a46 a47 a48 a49 v:α} {l:List α} {n:Nat} (h:Lk l n v):Lk (a0::a1::a2::a3::a4::a5::a6::a7::a8::a9::a10::a11::a12::a13::a14::a15::a16::a17::a18::a19::a20::a21::a22::a23::a24::a25::a26::a27::a28::a29::a30::a31::a32::a33::a34::a35::a36::a37::a38::a39::a40::a41::a42::a43::a44::a45::a46::a47::a48::a49::l) (n+50) v:=h
theorem q50 {α:Type} {a0 a1 a2 a3 a4 a5 a6 a7 a8 a9 a10 a11 a12 a13 a14 a15 a16 a17 a18 a19 a20 a21 a22 a23 a24 a25 a26 a27 a28 a29 a30 a31 a32 a33 a34 a35 a36 a37 a38 a39 a40 a41 a42 a43 a44 a45 a46 a47 a48 a49 v:α} {l l':List α} {n:Nat} (h:Pt l n v l'):Pt (a0::a1::a2::a3::a4::a5::a6::a7::a8::a9::a10::a11::a12::a13::a14::a15::a16::a17::a18::a19::a20::a21::a22::a23::a24::a25::a26::a27::a28::a29::a30::a31::a32::a33::a34::a35::a36::a37::a38::a39::a40::a41::a42::a43::a44::a45::a46::a47::a48::a49::l) (n+50) v (a0::a1::a2::a3::a4::a5::a6::a7::a8::a9::a10::a11::a12::a13::a14::a15::a16::a17::a18::a19::a20::a21::a22::a23::a24::a25::a26::a27::a28::a29::a30::a31::a32::a33::a34::a35::a36::a37::a38::a39::a40::a41::a42::a43::a44::a45::a46::a47::a48::a49::l'):=by unfold Pt at *; subst h; rfl
theorem k60 {α:Type} {a0 a1 a2 a3 a4 a5 a6 a7 a8 a9 a10 a11 a12 a13 a14 a15 a16 a17 a18 a19 a20 a21 a22 a23 a24 a25 a26 a27 a28 a29 a30 a31 a32 a33 a34 a35 a36 a37 a38 a39 a40 a41 a42 a43 a44 a45 a46 a47 a48 a49 a50 a51 a52 a53 a54 a55 a56 a57 a58 a59 v:α} {l:List α} {n:Nat} (h:Lk l n v):Lk (a0::a1::a2::a3::a4::a5::a6::a7::a8::a9::a10::a11::a12::a13::a14::a15::a16::a17::a18::a19::a20::a21::a22::a23::a24::a25::a26::a27::a28::a29::a30::a31::a32::a33::a34::a35::a36::a37::a38::a39::a40::a41::a42::a43::a44::a45::a46::a47::a48::a49::a50::a51::a52::a53::a54::a55::a56::a57::a58::a59::l) (n+60) v:=h
theorem q60 {α:Type} {a0 a1 a2 a3 a4 a5 a6 a7 a8 a9 a10 a11 a12 a13 a14 a15 a16 a17 a18 a19 a20 a21 a22 a23 a24 a25 a26 a27 a28 a29 a30 a31 a32 a33 a34 a35 a36 a37 a38 a39 a40 a41 a42 a43 a44 a45 a46 a47 a48 a49 a50 a51 a52 a53 a54 a55 a56 a57 a58 a59 v:α} {l l':List α} {n:Nat} (h:Pt l n v l'):Pt (a0::a1::a2::a3::a4::a5::a6::a7::a8::a9::a10::a11::a12::a13::a14::a15::a16::a17::a18::a19::a20::a21::a22::a23::a24::a25::a26::a27::a28::a29::a30::a31::a32::a33::a34::a35::a36::a37::a38::a39::a40::a41::a42::a43::a44::a45::a46::a47::a48::a49::a50::a51::a52::a53::a54::a55::a56::a57::a58::a59::l) (n+60) v (a0::a1::a2::a3::a4::a5::a6::a7::a8::a9::a10::a11::a12::a13::a14::a15::a16::a17::a18::a19::a20::a21::a22::a23::a24::a25::a26::a27::a28::a29::a30::a31::a32::a33::a34::a35::a36::a37::a38::a39::a40::a41::a42::a43::a44::a45::a46::a47::a48::a49::a50::a51::a52::a53::a54::a55::a56::a57::a58::a59::l'):=by unfold Pt at *; subst h; rfl
theorem k70 {α:Type} {a0 a1 a2 a3 a4 a5 a6 a7 a8 a9 a10 a11 a12 a13 a14 a15 a16 a17 a18 a19 a20 a21 a22 a23 a24 a25 a26 a27 a28 a29 a30 a31 a32 a33 a34 a35 a36 a37 a38 a39 a40 a41 a42 a43 a44 a45 a46 a47 a48 a49 a50 a51 a52 a53 a54 a55 a56 a57 a58 a59 a60 a61 a62 a63 a64 a65 a66 a67 a68 a69 v:α} {l:List α} {n:Nat} (h:Lk l n v):Lk (a0::a1::a2::a3::a4::a5::a6::a7::a8::a9::a10::a11::a12::a13::a14::a15::a16::a17::a18::a19::a20::a21::a22::a23::a24::a25::a26::a27::a28::a29::a30::a31::a32::a33::a34::a35::a36::a37::a38::a39::a40::a41::a42::a43::a44::a45::a46::a47::a48::a49::a50::a51::a52::a53::a54::a55::a56::a57::a58::a59::a60::a61::a62::a63::a64::a65::a66::a67::a68::a69::l) (n+70) v:=h
theorem q70 {α:Type} {a0 a1 a2 a3 a4 a5 a6 a7 a8 a9 a10 a11 a12 a13 a14 a15 a16 a17 a18 a19 a20 a21 a22 a23 a24 a25 a26 a27 a28 a29 a30 a31 a32 a33 a34 a35 a36 a37 a38 a39 a40 a41 a42 a43 a44 a45 a46 a47 a48 a49 a50 a51 a52 a53 a54 a55 a56 a57 a58 a59 a60 a61 a62 a63 a64 a65 a66 a67 a68 a69 v:α} {l l':List α} {n:Nat} (h:Pt l n v l'):Pt (a0::a1::a2::a3::a4::a5::a6::a7::a8::a9::a10::a11::a12::a13::a14::a15::a16::a17::a18::a19::a20::a21::a22::a23::a24::a25::a26::a27::a28::a29::a30::a31::a32::a33::a34::a35::a36::a37::a38::a39::a40::a41::a42::a43::a44::a45::a46::a47::a48::a49::a50::a51::a52::a53::a54::a55::a56::a57::a58::a59::a60::a61::a62::a63::a64::a65::a66::a67::a68::a69::l) (n+70) v (a0::a1::a2::a3::a4::a5::a6::a7::a8::a9::a10::a11::a12::a13::a14::a15::a16::a17::a18::a19::a20::a21::a22::a23::a24::a25::a26::a27::a28::a29::a30::a31::a32::a33::a34::a35::a36::a37::a38::a39::a40::a41::a42::a43::a44::a45::a46::a47::a48::a49::a50::a51::a52::a53::a54::a55::a56::a57::a58::a59::a60::a61::a62::a63::a64::a65::a66::a67::a68::a69::l'):=by unfold Pt at *; subst h; rfl
theorem k80 {α:Type} {a0 a1 a2 a3 a4 a5 a6 a7 a8 a9 a10 a11 a12 a13 a14 a15 a16 a17 a18 a19 a20 a21 a22 a23 a24 a25 a26 a27 a28 a29 a30 a31 a32 a33 a34 a35 a36 a37 a38 a39 a40 a41 a42 a43 a44 a45 a46 a47 a48 a49 a50 a51 a52 a53 a54 a55 a56 a57 a58 a59 a60 a61 a62 a63 a64 a65 a66 a67 a68 a69 a70 a71 a72 a73 a74 a75 a76 a77 a78 a79 v:α} {l:List α} {n:Nat} (h:Lk l n v):Lk (a0::a1::a2::a3::a4::a5::a6::a7::a8::a9::a10::a11::a12::a13::a14::a15::a16::a17::a18::a19::a20::a21::a22::a23::a24::a25::a26::a27::a28::a29::a30::a31::a32::a33::a34::a35::a36::a37::a38::a39::a40::a41::a42::a43::a44::a45::a46::a47::a48::a49::a50::a51::a52::a53::a54::a55::a56::a57::a58::a59::a60::a61::a62::a63::a64::a65::a66::a67::a68::a69::a70::a71::a72::a73::a74::a75::a76::a77::a78::a79::l) (n+80) v:=h
theorem q80 {α:Type} {a0 a1 a2 a3 a4 a5 a6 a7 a8 a9 a10 a11 a12 a13 a14 a15 a16 a17 a18 a19 a20 a21 a22 a23 a24 a25 a26 a27 a28 a29 a30 a31 a32 a33 a34 a35 a36 a37 a38 a39 a40 a41 a42 a43 a44 a45 a46 a47 a48 a49 a50 a51 a52 a53 a54 a55 a56 a57 a58 a59 a60 a61 a62 a63 a64 a65 a66 a67 a68 a69 a70 a71 a72 a73 a74 a75 a76 a77 a78 a79 v:α} {l l':List α} {n:Nat} (h:Pt l n v l'):Pt (a0::a1::a2::a3::a4::a5::a6::a7::a8::a9::a10::a11::a12::a13::a14::a15::a16::a17::a18::a19::a20::a21::a22::a23::a24::a25::a26::a27::a28::a29::a30::a31::a32::a33::a34::a35::a36::a37::a38::a39::a40::a41::a42::a43::a44::a45::a46::a47::a48::a49::a50::a51::a52::a53::a54::a55::a56::a57::a58::a59::a60::a61::a62::a63::a64::a65::a66::a67::a68::a69::a70::a71::a72::a73::a74::a75::a76::a77::a78::a79::l) (n+80) v (a0::a1::a2::a3::a4::a5::a6::a7::a8::a9::a10::a11::a12::a13::a14::a15::a16::a17::a18::a19::a20::a21::a22::a23::a24::a25::a26::a27::a28::a29::a30::a31::a32::a33::a34::a35::a36::a37::a38::a39::a40::a41::a42::a43::a44::a45::a46::a47::a48::a49::a50::a51::a52::a53::a54::a55::a56::a57::a58::a59::a60::a61::a62::a63::a64::a65::a66::a67::a68::a69::a70::a71::a72::a73::a74::a75::a76::a77::a78::a79::l'):=by unfold Pt at *; subst h; rfl
theorem k90 {α:Type} {a0 a1 a2 a3 a4 a5 a6 a7 a8 a9 a10 a11 a12 a13 a14 a15 a16 a17 a18 a19 a20 a21 a22 a23 a24 a25 a26 a27 a28 a29 a30 a31 a32 a33 a34 a35 a36 a37 a38 a39 a40 a41 a42 a43 a44 a45 a46 a47 a48 a49 a50 a51 a52 a53 a54 a55 a56 a57 a58 a59 a60 a61 a62 a63 a64 a65 a66 a67 a68 a69 a70 a71 a72 a73 a74 a75 a76 a77 a78 a79 a80 a81 a82 a83 a84 a85 a86 a87 a88 a89 v:α} {l:List α} {n:Nat} (h:Lk l n v):Lk (a0::a1::a2::a3::a4::a5::a6::a7::a8::a9::a10::a11::a12::a13::a14::a15::a16::a17::a18::a19::a20::a21::a22::a23::a24::a25::a26::a27::a28::a29::a30::a31::a32::a33::a34::a35::a36::a37::a38::a39::a40::a41::a42::a43::a44::a45::a46::a47::a48::a49::a50::a51::a52::a53::a54::a55::a56::a57::a58::a59::a60::a61::a62::a63::a64::a65::a66::a67::a68::a69::a70::a71::a72::a73::a74::a75::a76::a77::a78::a79::a80::a81::a82::a83::a84::a85::a86::a87::a88::a89::l) (n+90) v:=h
theorem q90 {α:Type} {a0 a1 a2 a3 a4 a5 a6 a7 a8 a9 a10 a11 a12 a13 a14 a15 a16 a17 a18 a19 a20 a21 a22 a23 a24 a25 a26 a27 a28 a29 a30 a31 a32 a33 a34 a35 a36 a37 a38 a39 a40 a41 a42 a43 a44 a45 a46 a47 a48 a49 a50 a51 a52 a53 a54 a55 a56 a57 a58 a59 a60 a61 a62 a63 a64 a65 a66 a67 a68 a69 a70 a71 a72 a73 a74 a75 a76 a77 a78 a79 a80 a81 a82 a83 a84 a85 a86 a87 a88 a89 v:α} {l l':List α} {n:Nat} (h:Pt l n v l'):Pt (a0::a1::a2::a3::a4::a5::a6::a7::a8::a9::a10::a11::a12::a13::a14::a15::a16::a17::a18::a19::a20::a21::a22::a23::a24::a25::a26::a27::a28::a29::a30::a31::a32::a33::a34::a35::a36::a37::a38::a39::a40::a41::a42::a43::a44::a45::a46::a47::a48::a49::a50::a51::a52::a53::a54::a55::a56::a57::a58::a59::a60::a61::a62::a63::a64::a65::a66::a67::a68::a69::a70::a71::a72::a73::a74::a75::a76::a77::a78::a79::a80::a81::a82::a83::a84::a85::a86::a87::a88::a89::l) (n+90) v (a0::a1::a2::a3::a4::a5::a6::a7::a8::a9::a10::a11::a12::a13::a14::a15::a16::a17::a18::a19::a20::a21::a22::a23::a24::a25::a26::a27::a28::a29::a30::a31::a32::a33::a34::a35::a36::a37::a38::a39::a40::a41::a42::a43::a44::a45::a46::a47::a48::a49::a50::a51::a52::a53::a54::a55::a56::a57::a58::a59::a60::a61::a62::a63::a64::a65::a66::a67::a68::a69::a70::a71::a72::a73::a74::a75::a76::a77::a78::a79::a80::a81::a82::a83::a84::a85::a86::a87::a88::a89::l'):=by unfold Pt at *; subst h; rfl
theorem k100 {α:Type} {a0 a1 a2 a3 a4 a5 a6 a7 a8 a9 a10 a11 a12 a13 a14 a15 a16 a17 a18 a19 a20 a21 a22 a23 a24 a25 a26 a27 a28 a29 a30 a31 a32 a33 a34 a35 a36 a37 a38 a39 a40 a41 a42 a43 a44 a45 a46 a47 a48 a49 a50 a51 a52 a53 a54 a55 a56 a57 a58 a59 a60 a61 a62 a63 a64 a65 a66 a67 a68 a69 a70 a71 a72 a73 a74 a75 a76 a77 a78 a79 a80 a81 a82 a83 a84 a85 a86 a87 a88 a89 a90 a91 a92 a93 a94 a95 a96 a97 a98 a99 v:α} {l:List α} {n:Nat} (h:Lk l n v):Lk (a0::a1::a2::a3::a4::a5::a6::a7::a8::a9::a10::a11::a12::a13::a14::a15::a16::a17::a18::a19::a20::a21::a22::a23::a24::a25::a26::a27::a28::a29::a30::a31::a32::a33::a34::a35::a36::a37::a38::a39::a40::a41::a42::a43::a44::a45::a46::a47::a48::a49::a50::a51::a52::a53::a54::a55::a56::a57::a58::a59::a60::a61::a62::a63::a64::a65::a66::a67::a68::a69::a70::a71::a72::a73::a74::a75::a76::a77::a78::a79::a80::a81::a82::a83::a84::a85::a86::a87::a88::a89::a90::a91::a92::a93::a94::a95::a96::a97::a98::a99::l) (n+100) v:=h
theorem q100 {α:Type} {a0 a1 a2 a3 a4 a5 a6 a7 a8 a9 a10 a11 a12 a13 a14 a15 a16 a17 a18 a19 a20 a21 a22 a23 a24 a25 a26 a27 a28 a29 a30 a31 a32 a33 a34 a35 a36 a37 a38 a39 a40 a41 a42 a43 a44 a45 a46 a47 a48 a49 a50 a51 a52 a53 a54 a55 a56 a57 a58 a59 a60 a61 a62 a63 a64 a65 a66 a67 a68 a69 a70 a71 a72 a73 a74 a75 a76 a77 a78 a79 a80 a81 a82 a83 a84 a85 a86 a87 a88 a89 a90 a91 a92 a93 a94 a95 a96 a97 a98 a99 v:α} {l l':List α} {n:Nat} (h:Pt l n v l'):Pt (a0::a1::a2::a3::a4::a5::a6::a7::a8::a9::a10::a11::a12::a13::a14::a15::a16::a17::a18::a19::a20::a21::a22::a23::a24::a25::a26::a27::a28::a29::a30::a31::a32::a33::a34::a35::a36::a37::a38::a39::a40::a41::a42::a43::a44::a45::a46::a47::a48::a49::a50::a51::a52::a53::a54::a55::a56::a57::a58::a59::a60::a61::a62::a63::a64::a65::a66::a67::a68::a69::a70::a71::a72::a73::a74::a75::a76::a77::a78::a79::a80::a81::a82::a83::a84::a85::a86::a87::a88::a89::a90::a91::a92::a93::a94::a95::a96::a97::a98::a99::l) (n+100) v (a0::a1::a2::a3::a4::a5::a6::a7::a8::a9::a10::a11::a12::a13::a14::a15::a16::a17::a18::a19::a20::a21::a22::a23::a24::a25::a26::a27::a28::a29::a30::a31::a32::a33::a34::a35::a36::a37::a38::a39::a40::a41::a42::a43::a44::a45::a46::a47::a48::a49::a50::a51::a52::a53::a54::a55::a56::a57::a58::a59::a60::a61::a62::a63::a64::a65::a66::a67::a68::a69::a70::a71::a72::a73::a74::a75::a76::a77::a78::a79::a80::a81::a82::a83::a84::a85::a86::a87::a88::a89::a90::a91::a92::a93::a94::a95::a96::a97::a98::a99::l'):=by unfold Pt at *; subst h; rfl
end Go.Wk
namespace Go.Wk
open Go.RowKit
section
variable {P:Program} {Q:Exit→Act→World→Prop} {K:List Value→List Deferred→World→Prop} {fr fr':List Value} {ds:List Deferred} {w:World}
variable {dst:Option Tmp} {ty:TypeId} {pos:String} {after:Array Edge} {g:Option (Nat×Bool)}
variable {S S0:Nat→Prop} {w0:World} {rs rs':List Res} {A:World→Prop}
variable {T:TypeId}
inductive KeyT:TypeDesc→Value→Prop where
 | str (l:List UInt8):KeyT .string (Wk.S l)
 | int (k:IntKind) (n:Int):KeyT (.int k) (.int k n)
def kEq:Value→Value→Bool
 | .string a,.string b=>decide (a.data.toList=b.data.toList)
 | .int _ a,.int _ b=>decide (a=b)
 | _,_=>false
def entAt (es:List MapEntry) (k:Value):Option (Nat×Value):=(es.zipIdx.find? fun e=>kEq k e.1.key).map fun e=>(e.2,e.1.val)
theorem findNow_eq {d:TypeDesc} {k:Value} (hk:KeyT d k):∀ (es:List MapEntry) (i:Nat),(∀ e ∈ es,KeyT d e.key)→Instr.findNow d k es i=some (((es.zipIdx i).find? fun e=>kEq k e.1.key).map fun e=>(e.2,e.1.val)):=by
 intro es
 induction es with
 | nil=>intro i _; simp [Instr.findNow]
 | cons e es ih =>
  intro i h
  have he:=h e (by simp)
  have ih':=ih (i+1) fun x hx=>h x (by simp [hx])
  simp only [Instr.findNow,List.zipIdx_cons,List.find?_cons]
  have hs:Instr.sameNow d k e.key=some (kEq k e.key):=by
   generalize e.key=k' at he
   cases hk with
   | str l =>
    cases he with
    | str l' =>
     simp only [Instr.sameNow,Wk.S,kEq]
     congr 1
     rw [Bool.eq_iff_iff,bytes_eq]
     simp
   | int kk n =>
    cases he with
    | int _ n' =>
     simp only [Instr.sameNow,if_true,kEq]
     congr 1
  rw [hs]
  cases hh:kEq k e.key with
  | true=>simp
  | false=>exact ih'
theorem run_findKey {kt:TypeId} {d:TypeDesc} {k:Value} {es:List MapEntry} (ht:P.underlying kt=some d) (hk:KeyT d k) (he:∀ e ∈ es,KeyT d e.key):(Instr.findKey kt k es).run P w=.ok (entAt es k) w:=by
 unfold Instr.findKey entAt
 simp only [Sem.run_bind,run_underlying ht,Result.andThen_ok,findNow_eq hk es 0 he]
 rfl
theorem run_checkKey {kt:TypeId} {d:TypeDesc} {k:Value} {b:Bool} (ht:P.underlying kt=some d) (hk:KeyT d k):(Instr.checkKey b 10000 kt k).run P w=.ok () w:=by
 show (Instr.checkKey b (9999+1) kt k).run P w=_
 unfold Instr.checkKey
 simp only [Sem.run_bind,run_underlying ht,Result.andThen_ok]
 cases hk <;> rfl
theorem s_mkmap (hS:Sep S S0 w0 w rs A) (h:∀ b w',w.heap.size≤b→Sep S S0 w0 w' (.map b [] 0::rs) A→Put fr dst (.map (some b)) fun fr'=>K fr' ds w'):OW P (Oper.mk dst (.makeMap T none) ty pos after g) fr ds w K Q:=by
 obtain ⟨fr',hd⟩:=dt_ex fr dst (.map (some w.heap.size))
 refine op_v (v:=.map (some w.heap.size)) (w':=w.alloc (.map #[] 0)) ?_ hd (h _ _ (Nat.le_refl _) (hS.alloc rfl (heap_alloc_new w _)) fr' hd)
 simp [execOp,Instr.makeMap]
def getAt (es:List MapEntry) (k z:Value):Value:=(entAt es k).elim z (·.2)
def hasAt (es:List MapEntry) (k:Value):Bool:=(entAt es k).isSome
def putAt (es:List MapEntry) (c:Nat) (k v:Value):List MapEntry:=match entAt es k with
 | some (i,_)=>es.modify i fun e=>{ e with key:=k,val:=v }
 | none=>es++[{ key:=k,val:=v,born:=c }]
def putC (es:List MapEntry) (c:Nat) (k:Value):Nat:=match entAt es k with
 | some _=>c
 | none=>c+1
theorem entAt_some {es:List MapEntry} {k v:Value} {i:Nat} (h:entAt es k=some (i,v)):∃ e,es[i]?=some e∧kEq k e.key=true∧e.val=v:=by
 unfold entAt at h
 cases hf:es.zipIdx.find? fun e=>kEq k e.1.key with
 | none=>rw [hf] at h; cases h
 | some x =>
  rw [hf] at h
  simp only [Option.map_some,Option.some.injEq,Prod.mk.injEq] at h
  obtain ⟨rfl,rfl⟩:=h
  have h1:=List.find?_some (p:=fun e:MapEntry×Nat=>kEq k e.1.key) hf
  have h2:=List.mem_of_find?_eq_some hf
  exact ⟨x.1,by have:=List.mem_zipIdx_iff_getElem?.1 h2; simpa using this,h1,rfl⟩
theorem same_bits {d:TypeDesc} {k k':Value} (hk:KeyT d k) (hk':KeyT d k') (h:kEq k k'=true):Instr.sameBits 10000 k' k=true:=by
 cases hk with
 | str l =>
  cases hk' with
  | str l' =>
   simp [kEq,Wk.S] at h
   subst h
   simp only [Instr.sameBits,Wk.S]
   exact (bytes_eq _ _).2 rfl
 | int kk n =>
  cases hk' with
  | int _ n' =>
   simp [kEq] at h
   subst h
   simp [Instr.sameBits]
theorem s_mput {x y z:Operand} {kt et:TypeId} {d:TypeDesc} {kv v:Value} {b c k:Nat} {es:List MapEntry} (hT:P.underlying T=some (.map kt et)) (hk:P.underlying kt=some d) (hx:Ev fr x (.map (some b))) (hy:Ev fr y kv) (hkv:KeyT d kv) (hz:Ev fr z v)
  (hS:Sep S S0 w0 w rs A) (hl:Lk rs k (.map b es c)) (he:∀ e ∈ es,KeyT d e.key)
  (hd:Dt fr dst undef fr') (h:∀ w' rs',Pt rs k (.map b (putAt es c kv v) (putC es c kv)) rs'→Sep S S0 w0 w' rs' A→K fr' ds w'):OW P (Oper.mk dst (.mapUpdate T x y z) ty pos after g) fr ds w K Q:=by
 have hb:w.heap[b]?=some (.map ⟨es⟩ c):=hS.get hl
 have hlt:b<w.heap.size:=(Array.getElem?_eq_some_iff.1 hb).1
 let w':World:={ w with heap:=w.heap.setIfInBounds b (.map ⟨putAt es c kv v⟩ (putC es c kv)) }
 have hkp:Keeps (fun k=>k≠b) w w':=⟨rfl,rfl,rfl,by simp [w'],fun j _ hj=>by simp [w',Array.getElem?_setIfInBounds,Ne.symm hj]⟩
 have hS':=hS.put (b:=b) (r':=.map b (putAt es c kv v) (putC es c kv)) (w':=w') hl rfl rfl rfl (by show w'.heap[b]?=_; simp [w',hlt]) hkp
 have h1:=run_checkKey (P:=P) (w:=w) (b:=false) hk hkv
 have h2:=run_findKey (P:=P) (w:=w) hk hkv he
 refine op_u (w':=w') ?_ hd (h w' _ rfl hS')
 cases hf:entAt es kv with
 | none=>simp [execOp,hx ds,hy ds,hz ds,Instr.mapUpdate,run_underlying hT,getObj,setObj,Sem.run,hb,Result.andThen,h1,h2,hf,w',putAt,putC]
 | some e =>
  obtain ⟨i,u⟩:=e
  obtain ⟨e,hei,hke,-⟩:=entAt_some hf
  have hsb:=same_bits hkv (he e (List.mem_of_getElem? hei)) hke
  simp [execOp,hx ds,hy ds,hz ds,Instr.mapUpdate,run_underlying hT,getObj,setObj,Sem.run,hb,Result.andThen,h1,h2,hf,hei,Instr.keyThatStays,hsb,w',putAt,putC]
end
end Go.Wk
namespace Go.Xt
open Go.Wk Go.RowKit
section
variable {P:Program} {Q:Exit→Act→World→Prop} {K:List Value→List Deferred→World→Prop} {fr fr':List Value} {ds:List Deferred} {w:World}
variable {dst:Option Tmp} {ty:TypeId} {pos:String} {after:Array Edge} {g:Option (Nat×Bool)}
variable {w0:World} {rs rs':List Res} {μ μ':M}
variable {T:TypeId} {d:TypeDesc} {ag:Bool} {zc:List Value} {n m:Nat}
theorem s_lookH {x y:Operand} {kt et:TypeId} {d:TypeDesc} {kv z:Value} {b c:Nat} {es:List MapEntry} (hT:P.underlying T=some (.map kt et)) (hk:P.underlying kt=some d) (hx:Ev fr x (.map (some b))) (hy:Ev fr y kv) (hkv:KeyT d kv)
  (hz:∀ w,(zeroValue et).run P w=.ok z w) (hb:w.heap[b]?=some (.map ⟨es⟩ c)) (he:∀ e ∈ es,KeyT d e.key)
  (hp:Dt fr dst (getAt es kv z) fr') (h:K fr' ds w):OW P (Oper.mk dst (.lookup T x y false) ty pos after g) fr ds w K Q:=by
 refine op_v (w':=w) ?_ hp h
 have h1:=run_checkKey (w:=w) (b:=es.isEmpty) hk hkv
 have h2:=run_findKey (w:=w) hk hkv he
 cases hf:entAt es kv with
 | none=>simp [execOp,hx ds,hy ds,Instr.lookup,run_underlying hT,getObj,Sem.run,hb,Result.andThen,h1,h2,hf,hz w,getAt]
 | some e=>simp [execOp,hx ds,hy ds,Instr.lookup,run_underlying hT,getObj,Sem.run,hb,Result.andThen,h1,h2,hf,getAt]
theorem s_look2H {x y:Operand} {kt et:TypeId} {d:TypeDesc} {kv z:Value} {b c:Nat} {es:List MapEntry} (hT:P.underlying T=some (.map kt et)) (hk:P.underlying kt=some d) (hx:Ev fr x (.map (some b))) (hy:Ev fr y kv) (hkv:KeyT d kv)
  (hz:∀ w,(zeroValue et).run P w=.ok z w) (hb:w.heap[b]?=some (.map ⟨es⟩ c)) (he:∀ e ∈ es,KeyT d e.key)
  (hp:Dt fr dst (.tuple #[getAt es kv z,.bool (hasAt es kv)]) fr') (h:K fr' ds w):OW P (Oper.mk dst (.lookup T x y true) ty pos after g) fr ds w K Q:=by
 refine op_v (w':=w) ?_ hp h
 have h1:=run_checkKey (w:=w) (b:=es.isEmpty) hk hkv
 have h2:=run_findKey (w:=w) hk hkv he
 cases hf:entAt es kv with
 | none=>simp [execOp,hx ds,hy ds,Instr.lookup,run_underlying hT,getObj,Sem.run,hb,Result.andThen,h1,h2,hf,hz w,getAt,hasAt]
 | some e=>simp [execOp,hx ds,hy ds,Instr.lookup,run_underlying hT,getObj,Sem.run,hb,Result.andThen,h1,h2,hf,getAt,hasAt]
class Mk (κ:Type) [DecidableEq κ] where
 key:κ→Value
 kd:TypeDesc
 kt:∀ k,KeyT kd (key k)
 eq:∀ a b,kEq (key a) (key b)=decide (a=b)
instance:Mk Int where
 key n:=.int .i64 n
 kd:=.int .i64
 kt:=.int .i64
 eq a b:=by simp [kEq]
class MV (β:Type) where
 rv:M→Value→β→Prop
 up:∀ {μ μ':M} {v:Value} {x:β},Le μ μ'→rv μ v x→rv μ' v x
def Pv {α:Type} [Mo α] (μ:M) (v:Value) (x:α):Prop:=∃ b o cs,v=.pointer (some ⟨b,o,none⟩)∧At μ b o cs∧Mo.cs μ cs x
theorem Pv.up {α:Type} [Mo α] {v:Value} {x:α} (l:Le μ μ') (h:Pv μ v x):Pv μ' v x:=by
 obtain ⟨b,o,cs,h1,h2,h3⟩:=h
 exact ⟨b,o,cs,h1,h2.up l,Mo.up l h3⟩
def Np {α:Type} [Mo α] (μ:M) (v:Value):Option α→Prop
 | none=>v=.pointer none
 | some x=>Pv μ v x
theorem Np.up {α:Type} [Mo α] {v:Value} {x:Option α} (h:Np μ v x) (l:Le μ μ'):Np μ' v x:=by
 cases x with
 | none=>exact h
 | some x=>exact Pv.up l h
theorem Np.cellV {α:Type} [Mo α] {v:Value} {x:Option α} (h:Np μ v x):cellV v=true:=by
 cases x with
 | none=>rw [show v=.pointer none from h]; rfl
 | some x=>obtain ⟨b,o,cs,rfl,-⟩:=h; rfl
theorem Np.of {α:Type} [Mo α] {b o:Nat} {cs:List Value} {x:α} (h:At μ b o cs) (k:Mo.cs μ cs x):Np μ (.pointer (some ⟨b,o,none⟩)) (some x):=⟨b,o,cs,rfl,h,k⟩
theorem Np.get {α:Type} [Mo α] {v:Value} {o:Option α} {x:α} (h:Np μ v o) (g:o=some x):∃ b o cs,v=.pointer (some ⟨b,o,none⟩)∧At μ b o cs∧Mo.cs μ cs x:=by
 subst g; exact h
def mget {κ β:Type} [DecidableEq κ]:List (κ×β)→κ→Option β
 | [],_=>none
 | (a,b)::m,k=>if a=k then some b else mget m k
def mput {κ β:Type} [DecidableEq κ]:List (κ×β)→κ→β→List (κ×β)
 | [],k,x=>[(k,x)]
 | (a,b)::m,k,x=>if a=k then (k,x)::m else (a,b)::mput m k x
def Es {κ β:Type} [DecidableEq κ] [Mk κ] [MV β] (μ:M):List MapEntry→List (κ×β)→Prop
 | [],m=>m=[]
 | e::es,m=>∃ k x t,m=(k,x)::t∧e.key=Mk.key k∧MV.rv μ e.val x∧Es μ es t
structure Mq {κ β:Type} [DecidableEq κ] [Mk κ] [MV β] (μ:M) (es:List MapEntry) (c:Nat) (m:List (κ×β)):Prop where
 kv:Es μ es m
 lt:∀ e ∈ es,e.born<c
 inc:es.Pairwise fun a b=>a.born<b.born
variable {κ β:Type} [DecidableEq κ] [Mk κ] [MV β]
theorem Es.up (l:Le μ μ'):∀ {es:List MapEntry} {m:List (κ×β)},Es μ es m→Es μ' es m
 | [],m,h=>by rw [Es] at h ⊢; exact h
 | e::es,m,h=>by
  rw [Es] at h ⊢
  obtain ⟨k,x,t,h1,h2,h3,h4⟩:=h
  exact ⟨k,x,t,h1,h2,MV.up l h3,Es.up l h4⟩
theorem Mq.up {es:List MapEntry} {c:Nat} {m:List (κ×β)} (h:Mq μ es c m) (l:Le μ μ'):Mq μ' es c m:=⟨h.kv.up l,h.lt,h.inc⟩
theorem Es.keys:∀ {es:List MapEntry} {m:List (κ×β)},Es μ es m→∀ e ∈ es,KeyT (Mk.kd (κ:=κ)) e.key
 | [],m,_,e,he=>by cases he
 | e::es,m,h,e',he=>by
  rw [Es] at h
  obtain ⟨k,x,t,h1,h2,h3,h4⟩:=h
  rcases List.mem_cons.1 he with rfl | he
  ·rw [h2]; exact Mk.kt k
  ·exact Es.keys h4 e' he
def fnd (kv:Value):List MapEntry→Option (Nat×Value)
 | []=>none
 | e::es=>if kEq kv e.key then some (0,e.val) else (fnd kv es).map fun p=>(p.1+1,p.2)
theorem fnd_zip (kv:Value):∀ (es:List MapEntry) (i:Nat),(((es.zipIdx i).find? fun e=>kEq kv e.1.key).map fun e=>(e.2,e.1.val))=(fnd kv es).map fun p=>(p.1+i,p.2)
 | [],i=>rfl
 | e::es,i=>by
  rw [List.zipIdx_cons,List.find?_cons,fnd]
  cases h:kEq kv e.key with
  | true=>simp
  | false =>
   simp only [Bool.false_eq_true,if_false]
   rw [fnd_zip kv es (i+1),Option.map_map]
   congr 1
   funext p
   simp; omega
theorem entAt_fnd (es:List MapEntry) (kv:Value):entAt es kv=fnd kv es:=by
 unfold entAt
 rw [fnd_zip]
 cases fnd kv es <;> simp
theorem Es.look:∀ {es:List MapEntry} {m:List (κ×β)},Es μ es m→∀ k:κ,(match fnd (Mk.key k) es with | none=>mget m k=none | some p=>∃ x,mget m k=some x∧MV.rv μ p.2 x)
 | [],m,h,k=>by rw [Es] at h; subst h; rfl
 | e::es,m,h,k=>by
  rw [Es] at h
  obtain ⟨k',x,t,rfl,h2,h3,h4⟩:=h
  rw [fnd,mget,h2,Mk.eq]
  have ih:=Es.look h4 k
  by_cases hk:k=k'
  ·subst hk; simp; exact h3
  ·rw [if_neg (by simpa using hk),if_neg (fun e=>hk e.symm)]
   cases hf:fnd (Mk.key k) es with
   | none=>rw [hf] at ih; exact ih
   | some p=>rw [hf] at ih; exact ih
theorem Es.get {es:List MapEntry} {m:List (κ×β)} (h:Es μ es m) (k:κ) {z:Value} {zx:β} (hz:MV.rv μ z zx):MV.rv μ (getAt es (Mk.key k) z) ((mget m k).getD zx):=by
 have:=h.look k
 unfold getAt
 rw [entAt_fnd]
 cases hf:fnd (Mk.key k) es with
 | none=>rw [hf] at this; simp only at this; rw [this]; exact hz
 | some p=>rw [hf] at this; obtain ⟨x,h1,h2⟩:=this; rw [h1]; exact h2
theorem Es.has {es:List MapEntry} {m:List (κ×β)} (h:Es μ es m) (k:κ):hasAt es (Mk.key k)=(mget m k).isSome:=by
 have:=h.look k
 unfold hasAt
 rw [entAt_fnd]
 cases hf:fnd (Mk.key k) es with
 | none=>rw [hf] at this; simp only at this; rw [this]; rfl
 | some p=>rw [hf] at this; obtain ⟨x,h1,h2⟩:=this; rw [h1]; rfl
theorem Es.put:∀ {es:List MapEntry} {m:List (κ×β)},Es μ es m→∀ (k:κ) {v:Value} {x:β},MV.rv μ v x→∀ c,Es μ (match fnd (Mk.key k) es with | some (i,_)=>es.modify i fun e=>{ e with key:=Mk.key k,val:=v } | none=>es++[{ key:=Mk.key k,val:=v,born:=c }]) (mput m k x)
 | [],m,h,k,v,x,hv,c=>by
  rw [Es] at h; subst h
  exact ⟨k,x,[],rfl,rfl,hv,rfl⟩
 | e::es,m,h,k,v,x,hv,c=>by
  rw [Es] at h
  obtain ⟨k',x',t,rfl,h2,h3,h4⟩:=h
  rw [fnd,mput,h2,Mk.eq]
  have ih:=Es.put h4 k hv c
  by_cases hk:k=k'
  ·subst hk
   simp
   exact ⟨k,x,t,rfl,rfl,hv,h4⟩
  ·rw [if_neg (by simpa using hk),if_neg (fun e=>hk e.symm)]
   cases hf:fnd (Mk.key k) es with
   | none=>rw [hf] at ih; exact ⟨k',x',_,rfl,h2,h3,ih⟩
   | some p=>rw [hf] at ih; exact ⟨k',x',_,rfl,h2,h3,ih⟩
theorem Mq.put {es:List MapEntry} {c:Nat} {m:List (κ×β)} (h:Mq μ es c m) (k:κ) {v:Value} {x:β} (hv:MV.rv μ v x):Mq μ (putAt es c (Mk.key k) v) (putC es c (Mk.key k)) (mput m k x):=by
 have hp:=h.kv.put k hv c
 have e1:∀ i,(es.modify i fun e=>{ e with key:=Mk.key k,val:=v }).map (·.born)=es.map (·.born):=by
  intro i
  refine List.ext_getElem (by simp) fun j h1 h2=>?_
  simp only [List.getElem_map,List.getElem_modify]
  split <;> rfl
 have lt2:∀ l:List MapEntry,l.map (·.born)=es.map (·.born)→∀ e ∈ l,e.born<c:=fun l hl e he=>by
  have hm:e.born ∈ es.map (·.born):=hl ▸ List.mem_map_of_mem he
  obtain ⟨e',he',hb⟩:=List.mem_map.1 hm
  rw [← hb]; exact h.lt e' he'
 have inc2:∀ l:List MapEntry,l.map (·.born)=es.map (·.born)→l.Pairwise fun a b=>a.born<b.born:=fun l hl=>by
  have:(es.map (·.born)).Pairwise (·<·):=List.pairwise_map.2 h.inc
  rw [← hl] at this
  exact List.pairwise_map.1 this
 unfold putAt putC
 rw [entAt_fnd]
 cases hf:fnd (Mk.key k) es with
 | some p =>
  obtain ⟨i,u⟩:=p
  rw [hf] at hp
  exact ⟨hp,lt2 _ (e1 i),inc2 _ (e1 i)⟩
 | none =>
  rw [hf] at hp
  refine ⟨hp,fun e he=>?_,?_⟩
  ·rcases List.mem_append.1 he with he | he
   ·exact Nat.lt_succ_of_lt (h.lt e he)
   ·simp at he; subst he; exact Nat.lt_succ_self _
  ·rw [List.pairwise_append]
   refine ⟨h.inc,by simp,fun a ha b hb=>?_⟩
   simp at hb; subst hb; exact h.lt a ha
theorem Mq.nil {c:Nat}:Mq (κ:=κ) (β:=β) μ [] c []:=⟨rfl,by simp,by simp⟩
theorem s_mget2 {x y:Operand} {kt et:TypeId} {z:Value} {b c:Nat} {es:List MapEntry} {m:List (κ×β)} {k:κ} {zx:β} (hT:P.underlying T=some (.map kt et)) (hk:P.underlying kt=some (Mk.kd (κ:=κ))) (hx:Ev fr x (.map (some b))) (hy:Ev fr y (Mk.key k))
  (hz:∀ w,(zeroValue et).run P w=.ok z w) (hzx:MV.rv μ z zx) (hb:w.heap[b]?=some (.map ⟨es⟩ c)) (he:Mq μ es c m)
  (h:∀ v,MV.rv μ v ((mget m k).getD zx)→Put fr dst (.tuple #[v,.bool (mget m k).isSome]) fun fr'=>K fr' ds w):OW P (Oper.mk dst (.lookup T x y true) ty pos after g) fr ds w K Q:=by
 obtain ⟨fr',hd⟩:=dt_ex fr dst (.tuple #[getAt es (Mk.key k) z,.bool (hasAt es (Mk.key k))])
 refine s_look2H hT hk hx hy (Mk.kt k) hz hb he.kv.keys hd ?_
 rw [he.kv.has k] at hd
 exact h _ (he.kv.get k hzx) fr' hd
theorem s_mget1 {x y:Operand} {kt et:TypeId} {z:Value} {b c:Nat} {es:List MapEntry} {m:List (κ×β)} {k:κ} {zx:β} (hT:P.underlying T=some (.map kt et)) (hk:P.underlying kt=some (Mk.kd (κ:=κ))) (hx:Ev fr x (.map (some b))) (hy:Ev fr y (Mk.key k))
  (hz:∀ w,(zeroValue et).run P w=.ok z w) (hzx:MV.rv μ z zx) (hb:w.heap[b]?=some (.map ⟨es⟩ c)) (he:Mq μ es c m)
  (h:∀ v,MV.rv μ v ((mget m k).getD zx)→Put fr dst v fun fr'=>K fr' ds w):OW P (Oper.mk dst (.lookup T x y false) ty pos after g) fr ds w K Q:=by
 obtain ⟨fr',hd⟩:=dt_ex fr dst (getAt es (Mk.key k) z)
 refine s_lookH hT hk hx hy (Mk.kt k) hz hb he.kv.keys hd ?_
 exact h _ (he.kv.get k hzx) fr' hd
theorem zv_of {et:TypeId} {z:Value} (h:(P.info? et).map (fun i=>i.zero)=some (some z)):∀ w,(zeroValue et).run P w=.ok z w:=fun w=>by
 cases hi:P.info? et with
 | none=>rw [hi] at h; cases h
 | some i =>
  rw [hi] at h
  simp only [Option.map_some,Option.some.injEq] at h
  simp [zeroValue,typeInfo,hi,h]
theorem s_mputM {x y z:Operand} {kt et:TypeId} {v:Value} {b c k:Nat} {es:List MapEntry} {kk:κ} {m:List (κ×β)} {xx:β} (hT:P.underlying T=some (.map kt et)) (hk:P.underlying kt=some (Mk.kd (κ:=κ))) (hx:Ev fr x (.map (some b))) (hy:Ev fr y (Mk.key kk)) (hz:Ev fr z v) (hv:MV.rv μ v xx)
  (hS:Sq μ w0 w rs) (hl:Lk rs k (.map b es c)) (he:Mq μ es c m)
  (hd:Dt fr dst undef fr') (h:∀ es' c' w' rs',Mq μ es' c' (mput m kk xx)→Pt rs k (.map b es' c') rs'→Sq μ w0 w' rs'→K fr' ds w'):OW P (Oper.mk dst (.mapUpdate T x y z) ty pos after g) fr ds w K Q :=
 s_mput hT hk hx hy (Mk.kt kk) hz hS hl he.kv.keys hd fun w' rs'=>h _ _ w' rs' (he.put kk hv)
end
end Go.Xt
namespace Go.Wk
abbrev yK1 (m:List Mk):List Mk:=.k::m
abbrev yO1 (s:Nat) (m:List Mk):List Mk:=.o s::m
theorem aK1 {m:List Mk} {a0:Value} {l l':List Value} (h:Ag m l l'):Ag (yK1 m) (a0::l) (a0::l'):=(.k h)
theorem aO1 {m:List Mk} {s:Nat} {a0 b0:Value} {l l':List Value} (h:Ag m l l'):Ag (yO1 s m) (a0::l) (b0::l'):=(.o h)
theorem mK1 {t:Nat→Value} {m:List Mk} {a0:Value} {l l':List Value} (h:Mg t m l l'):Mg t (yK1 m) (a0::l) (a0::l'):=(mk h)
theorem mO1 {t:Nat→Value} {m:List Mk} {s:Nat} {a0:Value} {l l':List Value} (h:Mg t m l l'):Mg t (yO1 s m) (a0::l) (t s::l'):=(mo h)
abbrev yK2 (m:List Mk):List Mk:=.k::.k::m
abbrev yO2 (s:Nat) (m:List Mk):List Mk:=.o s::.o (s+1)::m
theorem aK2 {m:List Mk} {a0 a1:Value} {l l':List Value} (h:Ag m l l'):Ag (yK2 m) (a0::a1::l) (a0::a1::l'):=(.k (.k h))
theorem aO2 {m:List Mk} {s:Nat} {a0 a1 b0 b1:Value} {l l':List Value} (h:Ag m l l'):Ag (yO2 s m) (a0::a1::l) (b0::b1::l'):=(.o (.o h))
theorem mK2 {t:Nat→Value} {m:List Mk} {a0 a1:Value} {l l':List Value} (h:Mg t m l l'):Mg t (yK2 m) (a0::a1::l) (a0::a1::l'):=(mk (mk h))
theorem mO2 {t:Nat→Value} {m:List Mk} {s:Nat} {a0 a1:Value} {l l':List Value} (h:Mg t m l l'):Mg t (yO2 s m) (a0::a1::l) (t s::t (s+1)::l'):=(mo (mo h))
abbrev yK3 (m:List Mk):List Mk:=.k::.k::.k::m
abbrev yO3 (s:Nat) (m:List Mk):List Mk:=.o s::.o (s+1)::.o (s+2)::m
theorem aK3 {m:List Mk} {a0 a1 a2:Value} {l l':List Value} (h:Ag m l l'):Ag (yK3 m) (a0::a1::a2::l) (a0::a1::a2::l'):=(.k (.k (.k h)))
theorem aO3 {m:List Mk} {s:Nat} {a0 a1 a2 b0 b1 b2:Value} {l l':List Value} (h:Ag m l l'):Ag (yO3 s m) (a0::a1::a2::l) (b0::b1::b2::l'):=(.o (.o (.o h)))
theorem mK3 {t:Nat→Value} {m:List Mk} {a0 a1 a2:Value} {l l':List Value} (h:Mg t m l l'):Mg t (yK3 m) (a0::a1::a2::l) (a0::a1::a2::l'):=(mk (mk (mk h)))
theorem mO3 {t:Nat→Value} {m:List Mk} {s:Nat} {a0 a1 a2:Value} {l l':List Value} (h:Mg t m l l'):Mg t (yO3 s m) (a0::a1::a2::l) (t s::t (s+1)::t (s+2)::l'):=(mo (mo (mo h)))
abbrev yK4 (m:List Mk):List Mk:=.k::.k::.k::.k::m
abbrev yO4 (s:Nat) (m:List Mk):List Mk:=.o s::.o (s+1)::.o (s+2)::.o (s+3)::m
theorem aK4 {m:List Mk} {a0 a1 a2 a3:Value} {l l':List Value} (h:Ag m l l'):Ag (yK4 m) (a0::a1::a2::a3::l) (a0::a1::a2::a3::l'):=(.k (.k (.k (.k h))))
theorem aO4 {m:List Mk} {s:Nat} {a0 a1 a2 a3 b0 b1 b2 b3:Value} {l l':List Value} (h:Ag m l l'):Ag (yO4 s m) (a0::a1::a2::a3::l) (b0::b1::b2::b3::l'):=(.o (.o (.o (.o h))))
theorem mK4 {t:Nat→Value} {m:List Mk} {a0 a1 a2 a3:Value} {l l':List Value} (h:Mg t m l l'):Mg t (yK4 m) (a0::a1::a2::a3::l) (a0::a1::a2::a3::l'):=(mk (mk (mk (mk h))))
theorem mO4 {t:Nat→Value} {m:List Mk} {s:Nat} {a0 a1 a2 a3:Value} {l l':List Value} (h:Mg t m l l'):Mg t (yO4 s m) (a0::a1::a2::a3::l) (t s::t (s+1)::t (s+2)::t (s+3)::l'):=(mo (mo (mo (mo h))))
abbrev yK5 (m:List Mk):List Mk:=.k::.k::.k::.k::.k::m
abbrev yO5 (s:Nat) (m:List Mk):List Mk:=.o s::.o (s+1)::.o (s+2)::.o (s+3)::.o (s+4)::m
theorem aK5 {m:List Mk} {a0 a1 a2 a3 a4:Value} {l l':List Value} (h:Ag m l l'):Ag (yK5 m) (a0::a1::a2::a3::a4::l) (a0::a1::a2::a3::a4::l'):=(.k (.k (.k (.k (.k h)))))
theorem aO5 {m:List Mk} {s:Nat} {a0 a1 a2 a3 a4 b0 b1 b2 b3 b4:Value} {l l':List Value} (h:Ag m l l'):Ag (yO5 s m) (a0::a1::a2::a3::a4::l) (b0::b1::b2::b3::b4::l'):=(.o (.o (.o (.o (.o h)))))
theorem mK5 {t:Nat→Value} {m:List Mk} {a0 a1 a2 a3 a4:Value} {l l':List Value} (h:Mg t m l l'):Mg t (yK5 m) (a0::a1::a2::a3::a4::l) (a0::a1::a2::a3::a4::l'):=(mk (mk (mk (mk (mk h)))))
theorem mO5 {t:Nat→Value} {m:List Mk} {s:Nat} {a0 a1 a2 a3 a4:Value} {l l':List Value} (h:Mg t m l l'):Mg t (yO5 s m) (a0::a1::a2::a3::a4::l) (t s::t (s+1)::t (s+2)::t (s+3)::t (s+4)::l'):=(mo (mo (mo (mo (mo h)))))
abbrev yK6 (m:List Mk):List Mk:=.k::.k::.k::.k::.k::.k::m
abbrev yO6 (s:Nat) (m:List Mk):List Mk:=.o s::.o (s+1)::.o (s+2)::.o (s+3)::.o (s+4)::.o (s+5)::m
theorem aK6 {m:List Mk} {a0 a1 a2 a3 a4 a5:Value} {l l':List Value} (h:Ag m l l'):Ag (yK6 m) (a0::a1::a2::a3::a4::a5::l) (a0::a1::a2::a3::a4::a5::l'):=(.k (.k (.k (.k (.k (.k h))))))
theorem aO6 {m:List Mk} {s:Nat} {a0 a1 a2 a3 a4 a5 b0 b1 b2 b3 b4 b5:Value} {l l':List Value} (h:Ag m l l'):Ag (yO6 s m) (a0::a1::a2::a3::a4::a5::l) (b0::b1::b2::b3::b4::b5::l'):=(.o (.o (.o (.o (.o (.o h))))))
theorem mK6 {t:Nat→Value} {m:List Mk} {a0 a1 a2 a3 a4 a5:Value} {l l':List Value} (h:Mg t m l l'):Mg t (yK6 m) (a0::a1::a2::a3::a4::a5::l) (a0::a1::a2::a3::a4::a5::l'):=(mk (mk (mk (mk (mk (mk h))))))
theorem mO6 {t:Nat→Value} {m:List Mk} {s:Nat} {a0 a1 a2 a3 a4 a5:Value} {l l':List Value} (h:Mg t m l l'):Mg t (yO6 s m) (a0::a1::a2::a3::a4::a5::l) (t s::t (s+1)::t (s+2)::t (s+3)::t (s+4)::t (s+5)::l'):=(mo (mo (mo (mo (mo (mo h))))))
abbrev yK7 (m:List Mk):List Mk:=.k::.k::.k::.k::.k::.k::.k::m
abbrev yO7 (s:Nat) (m:List Mk):List Mk:=.o s::.o (s+1)::.o (s+2)::.o (s+3)::.o (s+4)::.o (s+5)::.o (s+6)::m
theorem aK7 {m:List Mk} {a0 a1 a2 a3 a4 a5 a6:Value} {l l':List Value} (h:Ag m l l'):Ag (yK7 m) (a0::a1::a2::a3::a4::a5::a6::l) (a0::a1::a2::a3::a4::a5::a6::l'):=(.k (.k (.k (.k (.k (.k (.k h)))))))
theorem aO7 {m:List Mk} {s:Nat} {a0 a1 a2 a3 a4 a5 a6 b0 b1 b2 b3 b4 b5 b6:Value} {l l':List Value} (h:Ag m l l'):Ag (yO7 s m) (a0::a1::a2::a3::a4::a5::a6::l) (b0::b1::b2::b3::b4::b5::b6::l'):=(.o (.o (.o (.o (.o (.o (.o h)))))))
theorem mK7 {t:Nat→Value} {m:List Mk} {a0 a1 a2 a3 a4 a5 a6:Value} {l l':List Value} (h:Mg t m l l'):Mg t (yK7 m) (a0::a1::a2::a3::a4::a5::a6::l) (a0::a1::a2::a3::a4::a5::a6::l'):=(mk (mk (mk (mk (mk (mk (mk h)))))))
theorem mO7 {t:Nat→Value} {m:List Mk} {s:Nat} {a0 a1 a2 a3 a4 a5 a6:Value} {l l':List Value} (h:Mg t m l l'):Mg t (yO7 s m) (a0::a1::a2::a3::a4::a5::a6::l) (t s::t (s+1)::t (s+2)::t (s+3)::t (s+4)::t (s+5)::t (s+6)::l'):=(mo (mo (mo (mo (mo (mo (mo h)))))))
abbrev yK8 (m:List Mk):List Mk:=.k::.k::.k::.k::.k::.k::.k::.k::m
abbrev yO8 (s:Nat) (m:List Mk):List Mk:=.o s::.o (s+1)::.o (s+2)::.o (s+3)::.o (s+4)::.o (s+5)::.o (s+6)::.o (s+7)::m
theorem aK8 {m:List Mk} {a0 a1 a2 a3 a4 a5 a6 a7:Value} {l l':List Value} (h:Ag m l l'):Ag (yK8 m) (a0::a1::a2::a3::a4::a5::a6::a7::l) (a0::a1::a2::a3::a4::a5::a6::a7::l'):=(.k (.k (.k (.k (.k (.k (.k (.k h))))))))
theorem aO8 {m:List Mk} {s:Nat} {a0 a1 a2 a3 a4 a5 a6 a7 b0 b1 b2 b3 b4 b5 b6 b7:Value} {l l':List Value} (h:Ag m l l'):Ag (yO8 s m) (a0::a1::a2::a3::a4::a5::a6::a7::l) (b0::b1::b2::b3::b4::b5::b6::b7::l'):=(.o (.o (.o (.o (.o (.o (.o (.o h))))))))
theorem mK8 {t:Nat→Value} {m:List Mk} {a0 a1 a2 a3 a4 a5 a6 a7:Value} {l l':List Value} (h:Mg t m l l'):Mg t (yK8 m) (a0::a1::a2::a3::a4::a5::a6::a7::l) (a0::a1::a2::a3::a4::a5::a6::a7::l'):=(mk (mk (mk (mk (mk (mk (mk (mk h))))))))
theorem mO8 {t:Nat→Value} {m:List Mk} {s:Nat} {a0 a1 a2 a3 a4 a5 a6 a7:Value} {l l':List Value} (h:Mg t m l l'):Mg t (yO8 s m) (a0::a1::a2::a3::a4::a5::a6::a7::l) (t s::t (s+1)::t (s+2)::t (s+3)::t (s+4)::t (s+5)::t (s+6)::t (s+7)::l'):=(mo (mo (mo (mo (mo (mo (mo (mo h))))))))
abbrev yK9 (m:List Mk):List Mk:=.k::.k::.k::.k::.k::.k::.k::.k::.k::m
abbrev yO9 (s:Nat) (m:List Mk):List Mk:=.o s::.o (s+1)::.o (s+2)::.o (s+3)::.o (s+4)::.o (s+5)::.o (s+6)::.o (s+7)::.o (s+8)::m
theorem aK9 {m:List Mk} {a0 a1 a2 a3 a4 a5 a6 a7 a8:Value} {l l':List Value} (h:Ag m l l'):Ag (yK9 m) (a0::a1::a2::a3::a4::a5::a6::a7::a8::l) (a0::a1::a2::a3::a4::a5::a6::a7::a8::l'):=(.k (.k (.k (.k (.k (.k (.k (.k (.k h)))))))))
theorem aO9 {m:List Mk} {s:Nat} {a0 a1 a2 a3 a4 a5 a6 a7 a8 b0 b1 b2 b3 b4 b5 b6 b7 b8:Value} {l l':List Value} (h:Ag m l l'):Ag (yO9 s m) (a0::a1::a2::a3::a4::a5::a6::a7::a8::l) (b0::b1::b2::b3::b4::b5::b6::b7::b8::l'):=(.o (.o (.o (.o (.o (.o (.o (.o (.o h)))))))))
theorem mK9 {t:Nat→Value} {m:List Mk} {a0 a1 a2 a3 a4 a5 a6 a7 a8:Value} {l l':List Value} (h:Mg t m l l'):Mg t (yK9 m) (a0::a1::a2::a3::a4::a5::a6::a7::a8::l) (a0::a1::a2::a3::a4::a5::a6::a7::a8::l'):=(mk (mk (mk (mk (mk (mk (mk (mk (mk h)))))))))
theorem mO9 {t:Nat→Value} {m:List Mk} {s:Nat} {a0 a1 a2 a3 a4 a5 a6 a7 a8:Value} {l l':List Value} (h:Mg t m l l'):Mg t (yO9 s m) (a0::a1::a2::a3::a4::a5::a6::a7::a8::l) (t s::t (s+1)::t (s+2)::t (s+3)::t (s+4)::t (s+5)::t (s+6)::t (s+7)::t (s+8)::l'):=(mo (mo (mo (mo (mo (mo (mo (mo (mo h)))))))))
abbrev yK10 (m:List Mk):List Mk:=.k::.k::.k::.k::.k::.k::.k::.k::.k::.k::m
abbrev yO10 (s:Nat) (m:List Mk):List Mk:=.o s::.o (s+1)::.o (s+2)::.o (s+3)::.o (s+4)::.o (s+5)::.o (s+6)::.o (s+7)::.o (s+8)::.o (s+9)::m
theorem aK10 {m:List Mk} {a0 a1 a2 a3 a4 a5 a6 a7 a8 a9:Value} {l l':List Value} (h:Ag m l l'):Ag (yK10 m) (a0::a1::a2::a3::a4::a5::a6::a7::a8::a9::l) (a0::a1::a2::a3::a4::a5::a6::a7::a8::a9::l'):=(.k (.k (.k (.k (.k (.k (.k (.k (.k (.k h))))))))))
theorem aO10 {m:List Mk} {s:Nat} {a0 a1 a2 a3 a4 a5 a6 a7 a8 a9 b0 b1 b2 b3 b4 b5 b6 b7 b8 b9:Value} {l l':List Value} (h:Ag m l l'):Ag (yO10 s m) (a0::a1::a2::a3::a4::a5::a6::a7::a8::a9::l) (b0::b1::b2::b3::b4::b5::b6::b7::b8::b9::l'):=(.o (.o (.o (.o (.o (.o (.o (.o (.o (.o h))))))))))
theorem mK10 {t:Nat→Value} {m:List Mk} {a0 a1 a2 a3 a4 a5 a6 a7 a8 a9:Value} {l l':List Value} (h:Mg t m l l'):Mg t (yK10 m) (a0::a1::a2::a3::a4::a5::a6::a7::a8::a9::l) (a0::a1::a2::a3::a4::a5::a6::a7::a8::a9::l'):=(mk (mk (mk (mk (mk (mk (mk (mk (mk (mk h))))))))))
theorem mO10 {t:Nat→Value} {m:List Mk} {s:Nat} {a0 a1 a2 a3 a4 a5 a6 a7 a8 a9:Value} {l l':List Value} (h:Mg t m l l'):Mg t (yO10 s m) (a0::a1::a2::a3::a4::a5::a6::a7::a8::a9::l) (t s::t (s+1)::t (s+2)::t (s+3)::t (s+4)::t (s+5)::t (s+6)::t (s+7)::t (s+8)::t (s+9)::l'):=(mo (mo (mo (mo (mo (mo (mo (mo (mo (mo h))))))))))
abbrev yK20 (m:List Mk):List Mk:=.k::.k::.k::.k::.k::.k::.k::.k::.k::.k::.k::.k::.k::.k::.k::.k::.k::.k::.k::.k::m
abbrev yO20 (s:Nat) (m:List Mk):List Mk:=.o s::.o (s+1)::.o (s+2)::.o (s+3)::.o (s+4)::.o (s+5)::.o (s+6)::.o (s+7)::.o (s+8)::.o (s+9)::.o (s+10)::.o (s+11)::.o (s+12)::.o (s+13)::.o (s+14)::.o (s+15)::.o (s+16)::.o (s+17)::.o (s+18)::.o (s+19)::m
theorem aK20 {m:List Mk} {a0 a1 a2 a3 a4 a5 a6 a7 a8 a9 a10 a11 a12 a13 a14 a15 a16 a17 a18 a19:Value} {l l':List Value} (h:Ag m l l'):Ag (yK20 m) (a0::a1::a2::a3::a4::a5::a6::a7::a8::a9::a10::a11::a12::a13::a14::a15::a16::a17::a18::a19::l) (a0::a1::a2::a3::a4::a5::a6::a7::a8::a9::a10::a11::a12::a13::a14::a15::a16::a17::a18::a19::l'):=(.k (.k (.k (.k (.k (.k (.k (.k (.k (.k (.k (.k (.k (.k (.k (.k (.k (.k (.k (.k h))))))))))))))))))))
theorem aO20 {m:List Mk} {s:Nat} {a0 a1 a2 a3 a4 a5 a6 a7 a8 a9 a10 a11 a12 a13 a14 a15 a16 a17 a18 a19 b0 b1 b2 b3 b4 b5 b6 b7 b8 b9 b10 b11 b12 b13 b14 b15 b16 b17 b18 b19:Value} {l l':List Value} (h:Ag m l l'):Ag (yO20 s m) (a0::a1::a2::a3::a4::a5::a6::a7::a8::a9::a10::a11::a12::a13::a14::a15::a16::a17::a18::a19::l) (b0::b1::b2::b3::b4::b5::b6::b7::b8::b9::b10::b11::b12::b13::b14::b15::b16::b17::b18::b19::l'):=(.o (.o (.o (.o (.o (.o (.o (.o (.o (.o (.o (.o (.o (.o (.o (.o (.o (.o (.o (.o h))))))))))))))))))))
theorem mK20 {t:Nat→Value} {m:List Mk} {a0 a1 a2 a3 a4 a5 a6 a7 a8 a9 a10 a11 a12 a13 a14 a15 a16 a17 a18 a19:Value} {l l':List Value} (h:Mg t m l l'):Mg t (yK20 m) (a0::a1::a2::a3::a4::a5::a6::a7::a8::a9::a10::a11::a12::a13::a14::a15::a16::a17::a18::a19::l) (a0::a1::a2::a3::a4::a5::a6::a7::a8::a9::a10::a11::a12::a13::a14::a15::a16::a17::a18::a19::l'):=(mk (mk (mk (mk (mk (mk (mk (mk (mk (mk (mk (mk (mk (mk (mk (mk (mk (mk (mk (mk h))))))))))))))))))))
theorem mO20 {t:Nat→Value} {m:List Mk} {s:Nat} {a0 a1 a2 a3 a4 a5 a6 a7 a8 a9 a10 a11 a12 a13 a14 a15 a16 a17 a18 a19:Value} {l l':List Value} (h:Mg t m l l'):Mg t (yO20 s m) (a0::a1::a2::a3::a4::a5::a6::a7::a8::a9::a10::a11::a12::a13::a14::a15::a16::a17::a18::a19::l) (t s::t (s+1)::t (s+2)::t (s+3)::t (s+4)::t (s+5)::t (s+6)::t (s+7)::t (s+8)::t (s+9)::t (s+10)::t (s+11)::t (s+12)::t (s+13)::t (s+14)::t (s+15)::t (s+16)::t (s+17)::t (s+18)::t (s+19)::l'):=(mo (mo (mo (mo (mo (mo (mo (mo (mo (mo (mo (mo (mo (mo (mo (mo (mo (mo (mo (mo h))))))))))))))))))))
abbrev yK50 (m:List Mk):List Mk:=.k::.k::.k::.k::.k::.k::.k::.k::.k::.k::.k::.k::.k::.k::.k::.k::.k::.k::.k::.k::.k::.k::.k::.k::.k::.k::.k::.k::.k::.k::.k::.k::.k::.k::.k::.k::.k::.k::.k::.k::.k::.k::.k::.k::.k::.k::.k::.k::.k::.k::m
abbrev yO50 (s:Nat) (m:List Mk):List Mk:=.o s::.o (s+1)::.o (s+2)::.o (s+3)::.o (s+4)::.o (s+5)::.o (s+6)::.o (s+7)::.o (s+8)::.o (s+9)::.o (s+10)::.o (s+11)::.o (s+12)::.o (s+13)::.o (s+14)::.o (s+15)::.o (s+16)::.o (s+17)::.o (s+18)::.o (s+19)::.o (s+20)::.o (s+21)::.o (s+22)::.o (s+23)::.o (s+24)::.o (s+25)::.o (s+26)::.o (s+27)::.o (s+28)::.o (s+29)::.o (s+30)::.o (s+31)::.o (s+32)::.o (s+33)::.o (s+34)::.o (s+35)::.o (s+36)::.o (s+37)::.o (s+38)::.o (s+39)::.o (s+40)::.o (s+41)::.o (s+42)::.o (s+43)::.o (s+44)::.o (s+45)::.o (s+46)::.o (s+47)::.o (s+48)::.o (s+49)::m
theorem aK50 {m:List Mk} {a0 a1 a2 a3 a4 a5 a6 a7 a8 a9 a10 a11 a12 a13 a14 a15 a16 a17 a18 a19 a20 a21 a22 a23 a24 a25 a26 a27 a28 a29 a30 a31 a32 a33 a34 a35 a36 a37 a38 a39 a40 a41 a42 a43 a44 a45 a46 a47 a48 a49:Value} {l l':List Value} (h:Ag m l l'):Ag (yK50 m) (a0::a1::a2::a3::a4::a5::a6::a7::a8::a9::a10::a11::a12::a13::a14::a15::a16::a17::a18::a19::a20::a21::a22::a23::a24::a25::a26::a27::a28::a29::a30::a31::a32::a33::a34::a35::a36::a37::a38::a39::a40::a41::a42::a43::a44::a45::a46::a47::a48::a49::l) (a0::a1::a2::a3::a4::a5::a6::a7::a8::a9::a10::a11::a12::a13::a14::a15::a16::a17::a18::a19::a20::a21::a22::a23::a24::a25::a26::a27::a28::a29::a30::a31::a32::a33::a34::a35::a36::a37::a38::a39::a40::a41::a42::a43::a44::a45::a46::a47::a48::a49::l'):=(.k (.k (.k (.k (.k (.k (.k (.k (.k (.k (.k (.k (.k (.k (.k (.k (.k (.k (.k (.k (.k (.k (.k (.k (.k (.k (.k (.k (.k (.k (.k (.k (.k (.k (.k (.k (.k (.k (.k (.k (.k (.k (.k (.k (.k (.k (.k (.k (.k (.k h))))))))))))))))))))))))))))))))))))))))))))))))))
theorem aO50 {m:List Mk} {s:Nat} {a0 a1 a2 a3 a4 a5 a6 a7 a8 a9 a10 a11 a12 a13 a14 a15 a16 a17 a18 a19 a20 a21 a22 a23 a24 a25 a26 a27 a28 a29 a30 a31 a32 a33 a34 a35 a36 a37 a38 a39 a40 a41 a42 a43 a44 a45 a46 a47 a48 a49 b0 b1 b2 b3 b4 b5 b6 b7 b8 b9 b10 b11 b12 b13 b14 b15 b16 b17 b18 b19 b20 b21 b22 b23 b24 b25 b26 b27 b28 b29 b30 b31 b32 b33 b34 b35 b36 b37 b38 b39 b40 b41 b42 b43 b44 b45 b46 b47 b48 b49:Value} {l l':List Value} (h:Ag m l l'):Ag (yO50 s m) (a0::a1::a2::a3::a4::a5::a6::a7::a8::a9::a10::a11::a12::a13::a14::a15::a16::a17::a18::a19::a20::a21::a22::a23::a24::a25::a26::a27::a28::a29::a30::a31::a32::a33::a34::a35::a36::a37::a38::a39::a40::a41::a42::a43::a44::a45::a46::a47::a48::a49::l) (b0::b1::b2::b3::b4::b5::b6::b7::b8::b9::b10::b11::b12::b13::b14::b15::b16::b17::b18::b19::b20::b21::b22::b23::b24::b25::b26::b27::b28::b29::b30::b31::b32::b33::b34::b35::b36::b37::b38::b39::b40::b41::b42::b43::b44::b45::b46::b47::b48::b49::l'):=(.o (.o (.o (.o (.o (.o (.o (.o (.o (.o (.o (.o (.o (.o (.o (.o (.o (.o (.o (.o (.o (.o (.o (.o (.o (.o (.o (.o (.o (.o (.o (.o (.o (.o (.o (.o (.o (.o (.o (.o (.o (.o (.o (.o (.o (.o (.o (.o (.o (.o h))))))))))))))))))))))))))))))))))))))))))))))))))
theorem mK50 {t:Nat→Value} {m:List Mk} {a0 a1 a2 a3 a4 a5 a6 a7 a8 a9 a10 a11 a12 a13 a14 a15 a16 a17 a18 a19 a20 a21 a22 a23 a24 a25 a26 a27 a28 a29 a30 a31 a32 a33 a34 a35 a36 a37 a38 a39 a40 a41 a42 a43 a44 a45 a46 a47 a48 a49:Value} {l l':List Value} (h:Mg t m l l'):Mg t (yK50 m) (a0::a1::a2::a3::a4::a5::a6::a7::a8::a9::a10::a11::a12::a13::a14::a15::a16::a17::a18::a19::a20::a21::a22::a23::a24::a25::a26::a27::a28::a29::a30::a31::a32::a33::a34::a35::a36::a37::a38::a39::a40::a41::a42::a43::a44::a45::a46::a47::a48::a49::l) (a0::a1::a2::a3::a4::a5::a6::a7::a8::a9::a10::a11::a12::a13::a14::a15::a16::a17::a18::a19::a20::a21::a22::a23::a24::a25::a26::a27::a28::a29::a30::a31::a32::a33::a34::a35::a36::a37::a38::a39::a40::a41::a42::a43::a44::a45::a46::a47::a48::a49::l'):=(mk (mk (mk (mk (mk (mk (mk (mk (mk (mk (mk (mk (mk (mk (mk (mk (mk (mk (mk (mk (mk (mk (mk (mk (mk (mk (mk (mk (mk (mk (mk (mk (mk (mk (mk (mk (mk (mk (mk (mk (mk (mk (mk (mk (mk (mk (mk (mk (mk (mk h))))))))))))))))))))))))))))))))))))))))))))))))))
theorem mO50 {t:Nat→Value} {m:List Mk} {s:Nat} {a0 a1 a2 a3 a4 a5 a6 a7 a8 a9 a10 a11 a12 a13 a14 a15 a16 a17 a18 a19 a20 a21 a22 a23 a24 a25 a26 a27 a28 a29 a30 a31 a32 a33 a34 a35 a36 a37 a38 a39 a40 a41 a42 a43 a44 a45 a46 a47 a48 a49:Value} {l l':List Value} (h:Mg t m l l'):Mg t (yO50 s m) (a0::a1::a2::a3::a4::a5::a6::a7::a8::a9::a10::a11::a12::a13::a14::a15::a16::a17::a18::a19::a20::a21::a22::a23::a24::a25::a26::a27::a28::a29::a30::a31::a32::a33::a34::a35::a36::a37::a38::a39::a40::a41::a42::a43::a44::a45::a46::a47::a48::a49::l) (t s::t (s+1)::t (s+2)::t (s+3)::t (s+4)::t (s+5)::t (s+6)::t (s+7)::t (s+8)::t (s+9)::t (s+10)::t (s+11)::t (s+12)::t (s+13)::t (s+14)::t (s+15)::t (s+16)::t (s+17)::t (s+18)::t (s+19)::t (s+20)::t (s+21)::t (s+22)::t (s+23)::t (s+24)::t (s+25)::t (s+26)::t (s+27)::t (s+28)::t (s+29)::t (s+30)::t (s+31)::t (s+32)::t (s+33)::t (s+34)::t (s+35)::t (s+36)::t (s+37)::t (s+38)::t (s+39)::t (s+40)::t (s+41)::t (s+42)::t (s+43)::t (s+44)::t (s+45)::t (s+46)::t (s+47)::t (s+48)::t (s+49)::l'):=(mo (mo (mo (mo (mo (mo (mo (mo (mo (mo (mo (mo (mo (mo (mo (mo (mo (mo (mo (mo (mo (mo (mo (mo (mo (mo (mo (mo (mo (mo (mo (mo (mo (mo (mo (mo (mo (mo (mo (mo (mo (mo (mo (mo (mo (mo (mo (mo (mo (mo h))))))))))))))))))))))))))))))))))))))))))))))))))
theorem aI {m:List Mk} {v a:Value} {l l':List Value} (h:Ag m l l'):Ag (.i v::m) (a::l) (v::l'):=.i h
theorem aZ {l:List Value}:Ag [] l l:=.z
end Go.Wk
namespace Go.Wk
open Go.RowKit
section
variable {P:Program} {Q:Exit→Act→World→Prop} {ops:Array Oper} {fr fr':List Value} {ds:List Deferred} {w:World}
theorem yielded_eval (ops:Array Oper) (fr:List Value) (ds:List Deferred) (j:Nat):yielded ops (F fr ds).tmps j=match (ops[j]?).bind (·.dst) with | some s=>(match (F fr ds).eval (.tmp s) with | .bool b=>some b | _=>none) | none=>none:=by
 unfold yielded
 cases h:(ops[j]?).bind (·.dst) with
 | none=>simp
 | some s =>
  simp only [Option.bind_some,F,Act.eval]
  cases hh:(⟨fr⟩:Array Value)[s]? with
  | none =>
   have:(⟨fr⟩:Array Value).getD s undef=undef:=by simp [Array.getD_eq_getD_getElem?,hh]
   first
    | (simp [hh,undef]; done)
    | (rw [this]; simp [undef])
  | some v =>
   have:(⟨fr⟩:Array Value).getD s undef=v:=by simp [Array.getD_eq_getD_getElem?,hh]
   first
    | (simp [hh]; done)
    | (rw [this]; cases v <;> rfl)
theorem wanted_put {o p:Oper} {fr:List Value} {ds ds':List Deferred} {g:List Value→List Value} (g3:∀ (y:Operand),(∀ e,p.dst=some e→slotOf y≠some e)→(F (g fr) ds).eval y=(F fr ds).eval y) (hpo:∀ e,p.dst=some e→(reads ops o).contains e=false) :
  Region.wanted o (yielded ops (F (g fr) ds').tmps)=Region.wanted o (yielded ops (F fr ds').tmps):=by
 have e0:(F (g fr) ds').tmps=(F (g fr) ds).tmps:=rfl
 have e1:(F fr ds').tmps=(F fr ds).tmps:=rfl
 rw [e0,e1]
 unfold Region.wanted
 cases hgd:o.guard with
 | none=>rfl
 | some jb =>
  obtain ⟨j,b⟩:=jb
  simp only
  have:yielded ops (F (g fr) ds).tmps j=yielded ops (F fr ds).tmps j:=by
   rw [yielded_eval,yielded_eval]
   cases hs:(ops[j]?).bind (·.dst) with
   | none=>rfl
   | some s =>
    simp only
    rw [g3 (.tmp s) fun e he hh=>by
     simp [slotOf] at hh
     subst hh
     have:=hpo s he
     unfold reads at this
     rw [hgd] at this
     simp [hs] at this]
  first
   | rw [this]
   | simp [this]
theorem wanted_y {o:Oper} {j d:Nat} {b b':Bool} (hg:o.guard=some (j,b)) (hj:(ops[j]?).bind (·.dst)=some d) (hl:Lk fr d (.bool b')):Region.wanted o (yielded ops (F fr ds).tmps)=(b' == b):=by
 unfold Region.wanted
 rw [hg]
 simp only
 have:yielded ops (F fr ds).tmps j=some b':=by
  rw [yielded_eval,hj]
  simp only
  rw [et hl ds]
 rw [this]
 cases b <;> cases b' <;> rfl
theorem wanted_u {o:Oper} {j d:Nat} {b:Bool} (hg:o.guard=some (j,b)) (hj:(ops[j]?).bind (·.dst)=some d) (hl:Lk fr d undef):Region.wanted o (yielded ops (F fr ds).tmps)=false:=by
 unfold Region.wanted
 rw [hg]
 simp only
 have:yielded ops (F fr ds).tmps j=none:=by
  rw [yielded_eval,hj]
  simp only
  rw [et hl ds]
  rfl
 rw [this]
 rfl
theorem wn0 {o:Oper} (hg:o.guard=none):Region.wanted o (yielded ops (F fr ds).tmps)=true:=by simp [Region.wanted,hg]
theorem wanted_t {o:Oper} {j d:Nat} {b:Bool} (hg:o.guard=some (j,b)) (hj:(ops[j]?).bind (·.dst)=some d) (hl:Lk fr d (.bool b)):Region.wanted o (yielded ops (F fr ds).tmps)=true :=
 (wanted_y hg hj hl).trans (by cases b <;> rfl)
end
end Go.Wk
namespace Go.Wk
open Go.RowKit
section
variable {P:Program} {Q:Exit→Act→World→Prop} {ops:Array Oper} {fr fr':List Value} {ds:List Deferred} {w:World}
def waits (ops:Array Oper) (R S:List Nat) (i:Nat):Bool:=S.all fun j=>j == i || S.any fun k=>(deps ops j).contains k && R.contains k
theorem LinExt.later {R π:List Nat} (h:LinExt ops R π) (hn:R.Nodup) {i:Nat} {S:List Nat} (hS:∀ j ∈ S,j=i∨∃ k ∈ S,k ∈ deps ops j∧k ∈ R):∀ l1 l2,π=l1++i::l2→i ∉ l1→∀ j ∈ l1,j ∉ S:=by
 induction h with
 | z=>intro l1 l2 h; simp at h
 | @s R π k hk t ih =>
  intro l1 l2 h hi j hj
  cases l1 with
  | nil=>cases hj
  | cons e l1 =>
   simp only [List.cons_append,List.cons.injEq] at h
   obtain ⟨rfl,h⟩:=h
   have he:k ∉ S:=fun hm=>by
    rcases hS k hm with rfl | ⟨q,q1,q2,q3⟩
    ·exact hi (by simp)
    ·exact enabled_dep hk q2 q3
   rcases List.mem_cons.1 hj with rfl | hj
   ·exact he
   ·refine ih (hn.erase k) (fun j hj=>?_) l1 l2 h (fun hm=>hi (by simp [hm])) j hj
    rcases hS j hj with rfl | ⟨q,q1,q2,q3⟩
    ·exact .inl rfl
    ·exact .inr ⟨q,q1,q2,(hn.mem_erase_iff).2 ⟨fun e=>he (e ▸ q1),q3⟩⟩
end
end Go.Wk
namespace Go.Wk
open Go.RowKit
section
variable {P:Program} {Q:Exit→Act→World→Prop} {K:List Value→List Deferred→World→Prop} {fr fr':List Value} {ds:List Deferred} {w:World}
variable {dst:Option Tmp} {ty:TypeId} {pos:String} {after:Array Edge} {g:Option (Nat×Bool)}
variable {S S0:Nat→Prop} {w0:World} {rs rs':List Res} {A:World→Prop}
variable {T:TypeId} {d:TypeDesc} {ag:Bool} {zc:List Value} {n m:Nat}
end
end Go.Wk
namespace Go.Xt
open Go.Wk Go.RowKit
section
variable {P:Program} {Q:Exit→Act→World→Prop} {K:List Value→List Deferred→World→Prop} {fr fr':List Value} {ds:List Deferred} {w:World}
variable {dst:Option Tmp} {ty:TypeId} {pos:String} {after:Array Edge} {g:Option (Nat×Bool)}
variable {w0:World} {rs rs':List Res} {μ μ':M}
variable {T:TypeId} {d:TypeDesc} {ag:Bool} {zc:List Value} {n m:Nat}
variable {κ β:Type} [DecidableEq κ] [Mk κ] [MV β]
theorem Row.cutTo {v:Value} {sz:Nat} {xs:List Value} {j:Int} (h:Row w v T sz n xs) (h0:0≤j) (hj:j≤n) :
  ∃ v',Slc v sz none (some j) v'∧v'.ownBlock=v.ownBlock∧∀ w T,Row w v T sz n xs→Row w v' T sz j.toNat (xs.take (j.toNat*sz)):=by
 have hl:∀ w T,Row w v T sz n xs→(xs.take (j.toNat*sz)).length=j.toNat*sz:=fun w T h=>by
  rw [List.length_take,h.1]
  exact Nat.min_eq_left (Nat.mul_le_mul_right _ (by omega))
 rcases h.2 with ⟨rfl,rfl⟩ | ⟨g,o,cap,cur,rfl,hg,h1,h2,h3,h4⟩
 ·have:j=0:=by omega
  subst this
  exact ⟨.slice none 0 0,⟨none,0,0,rfl,by simp,by simp,by simp,by simp⟩,rfl,fun w T h=>⟨hl w T h,.inl ⟨rfl,rfl⟩⟩⟩
 ·refine ⟨.slice (some ⟨g,o,none⟩) j.toNat cap,⟨_,_,_,rfl,by simp,by simpa using h0,by simp; omega,?_⟩,rfl,fun w2 T2 hk=>⟨hl w2 T2 hk,.inr ?_⟩⟩
  ·simp [add_addr]
  ·rcases hk.2 with ⟨hv,_⟩ | ⟨g',o',cap',cur',hv,hg',k1,k2,k3,k4⟩
   ·simp at hv
   ·simp at hv
    obtain ⟨⟨rfl,rfl⟩,rfl⟩:=hv
    exact ⟨g,o,cap,cur',rfl,hg',by omega,k2,k3,by rw [← k4,List.take_take,Nat.min_eq_left (Nat.mul_le_mul_right _ (by omega))]⟩
theorem Row.cutFrom {v:Value} {sz:Nat} {xs:List Value} {i:Int} (h:Row w v T sz n xs) (h0:0≤i) (hi:i≤n) :
  ∃ v',Slc v sz (some i) none v'∧v'.ownBlock=v.ownBlock∧∀ w T,Row w v T sz n xs→Row w v' T sz (n - i.toNat) (xs.drop (i.toNat*sz)):=by
 have hl:∀ w T,Row w v T sz n xs→(xs.drop (i.toNat*sz)).length=(n - i.toNat)*sz:=fun w T h=>by
  rw [List.length_drop,h.1,Nat.sub_mul]
 rcases h.2 with ⟨rfl,rfl⟩ | ⟨g,o,cap,cur,rfl,hg,h1,h2,h3,h4⟩
 ·have:i=0:=by omega
  subst this
  exact ⟨.slice none 0 0,⟨none,0,0,rfl,by simp,by simp,by simp,by simp⟩,rfl,fun w T h=>⟨hl w T h,.inl ⟨rfl,by simp⟩⟩⟩
 ·refine ⟨_,⟨_,_,_,rfl,by simpa using h0,by simpa using hi,by simp; omega,rfl⟩,by simp only [Option.getD_some]; split <;> simp [Value.ownBlock,add_addr],fun w2 T2 hk=>⟨hl w2 T2 hk,.inr ?_⟩⟩
  rcases hk.2 with ⟨hv,_⟩ | ⟨g',o',cap',cur',hv,hg',k1,k2,k3,k4⟩
  ·simp at hv
  ·simp at hv
   obtain ⟨⟨rfl,rfl⟩,rfl⟩:=hv
   have hmul:i.toNat*sz+(cap - i.toNat)*sz=cap*sz:=by rw [← Nat.add_mul]; congr 1; omega
   by_cases hc:cap=i.toNat
   ·refine ⟨g,o,cap - i.toNat,cur',by simp [hc],hg',by omega,by omega,by omega,?_⟩
    rw [show n - i.toNat=0 by omega,Nat.zero_mul,List.take_zero,List.drop_eq_nil_of_le (by rw [hk.1]; exact Nat.mul_le_mul_right _ (by omega))]
   ·refine ⟨g,o+i.toNat*sz,cap - i.toNat,cur',by simp [hc,add_addr],hg',by omega,by omega,by omega,?_⟩
    rw [← k4,← List.drop_drop,List.drop_take,Nat.sub_mul]
theorem Rw.drop {α:Type} [Mo α]:∀ {l:List α} {cells:List Value} (i:Nat),Rw μ cells l→Rw μ (cells.drop (i*Mo.sz α)) (l.drop i)
 | [],cells,i,h=>by rw [Rw] at h; subst h; simp [Rw]
 | x::l,cells,0,h=>by simpa using h
 | x::l,cells,i+1,h=>by
  rw [Rw] at h
  obtain ⟨cs,t,rfl,h1,h2⟩:=h
  have e:(i+1)*Mo.sz α=cs.length+i*Mo.sz α:=by rw [Nat.add_mul,Mo.ln h1]; omega
  rw [e,← List.drop_drop]
  simpa using Rw.drop i h2
theorem Row.cutQ {α:Type} [Mo α] {v:Value} {cells:List Value} {l l':List α} {i:Int} (h:Row w v T (Mo.sz α) l.length cells) (hm:Rw μ cells l) (g:cut l i l.length=some l') :
  ∃ v' cells',Slc v (Mo.sz α) (some i) none v'∧v'.ownBlock=v.ownBlock∧(∀ w T,Row w v T (Mo.sz α) l.length cells→Row w v' T (Mo.sz α) l'.length cells')∧Rw μ cells' l':=by
 obtain ⟨⟨h0,h1,h2⟩,rfl⟩:=cut_eq g
 obtain ⟨v',e1,e2,e3⟩:=Row.cutFrom h h0 h1
 refine ⟨v',cells.drop (i.toNat*Mo.sz α),e1,e2,fun w T hk=>?_,by simpa using hm.drop i.toNat⟩
 have:=e3 w T hk
 simpa using this
theorem _root_.Go.Wk.Sep.perm {S S0:Nat→Prop} {A:World→Prop} (h:Sep S S0 w0 w rs A) (hp:rs.Perm rs'):Sep S S0 w0 w rs' A where
 keeps:=h.keeps
 all r hr:=h.all r (hp.mem_iff.2 hr)
 dis:=(hp.filterMap _).nodup_iff.1 h.dis
 new b hb:=h.new b ((hp.filterMap _).mem_iff.2 hb)
 imm:=h.imm.mono fun k _ hs=>⟨hs.1,fun hm=>hs.2 ((hp.filterMap Res.block).mem_iff.2 hm)⟩
theorem _root_.Go.Wk.Sep.mOut {a p M R:List Res} (h:Sq μ w0 w (a++(p++(M++R)))):Sq μ w0 w (a++(M++(p++R))) :=
 h.perm (List.Perm.append_left a (by
  rw [← List.append_assoc,← List.append_assoc]
  exact List.Perm.append_right R List.perm_append_comm))
theorem _root_.Go.Wk.Sep.reRow {k:Nat} {v v':Value} {sz n':Nat} {xs xs':List Value} {S S0:Nat→Prop} {A:World→Prop} (hS:Sep S S0 w0 w rs A) (hl:Lk rs k (.row v T sz n xs)) (hb:v'.ownBlock=v.ownBlock) (hr:∀ w T,Row w v T sz n xs→Row w v' T sz n' xs') (hp:Pt rs k (.row v' T sz n' xs') rs'):Sep S S0 w0 w rs' A:=by
 have h:Row w v T sz n xs:=hS.get hl
 cases hv:v.ownBlock with
 | some b=>exact hS.put (b:=b) (r:=.row v T sz n xs) (r':=.row v' T sz n' xs') hl hv (hb.trans hv) hp (hr _ _ h) (Keeps.refl _)
 | none =>
  unfold Pt at hp
  subst hp
  have hbs:=blocks_set (r':=.row v' T sz n' xs') hl (show v'.ownBlock=v.ownBlock from hb)
  refine ⟨hS.keeps,fun r hr2=>?_,by rw [hbs]; exact hS.dis,by rw [hbs]; exact hS.new,by rw [hbs]; exact hS.imm⟩
  obtain ⟨i,hi⟩:=List.mem_iff_getElem?.1 hr2
  rw [List.getElem?_set] at hi
  split at hi
  ·split at hi
   ·cases hi; exact hr _ _ h
   ·cases hi
  ·exact hS.all r (List.mem_of_getElem? hi)
end
end Go.Xt
namespace Go.Xt
open Go.Wk Go.RowKit
theorem isf {P : Program} {f : FuncId} {fn : Func} (hf : P.funcs[f]? = some fn) (hb : fn.body.isSome = true := by rfl) (hn : (fn.name == "runtime.NumGoroutine") = false := by kernel_rfl) : IsFn P f := isFn_of hf hb hn
theorem tj {P : Program} {T : TypeId} {d : TypeDesc} {ag : Bool} {z : Value} {zc : List Value} {n m : Nat} (hu : P.underlying T = some d) (ha : aggD d = ag := by rfl) (h : (P.info? T).map (fun i => (i.zero, i.size, i.bytes)) = some (some z, n, m) := by kernel_rfl) (hz : z.cells = ⟨zc⟩ := by rfl) : TI P T ag zc n m := ti_of hu ha h hz
end Go.Xt
namespace Go.Xt
open Go.Wk Go.RowKit
theorem cv_s {v:Value} {l:List Value} (h:cellV v=true) (k:l.all cellV=true):(v::l).all cellV=true:=by simp [h,k]
theorem cv_z:([]:List Value).all cellV=true:=rfl
theorem drop_splice (A vs:List Value) (o q N:Nat) (h1:q+vs.length≤N) (h2:o+N≤A.length):((A.take (o+q)++vs++A.drop (o+q+vs.length)).drop o).take N=((A.drop o).take N).take q++vs++((A.drop o).take N).drop (q+vs.length):=by
 apply List.ext_getElem?
 intro j
 simp only [List.getElem?_take,List.getElem?_drop,List.getElem?_append,List.length_append,List.length_take,List.length_drop]
 have e1:min (o+q) A.length=o+q:=by omega
 have e2:min q (min N (A.length - o))=q:=by omega
 rw [e1,e2]
 by_cases c1:j<q
 ·have c2:j<N:=by omega
  have c3:j<q+vs.length:=by omega
  simp [c1,c2,c3,show o+j<o+q by omega,show o+j<o+q+vs.length by omega]
 ·by_cases c2:j<q+vs.length
  ·rw [if_pos (by omega),if_pos (by omega),if_neg (by omega),if_pos (by omega),if_neg (by omega)]
   congr 1; omega
  ·by_cases c3:j<N
   ·rw [if_pos c3,if_neg (by omega),if_neg (by omega),if_pos (by omega)]
    congr 1; omega
   ·rw [if_neg c3,if_neg (by omega),if_neg (by omega)]
section
variable {P:Program} {Q:Exit→Act→World→Prop} {K:List Value→List Deferred→World→Prop} {fr fr':List Value} {ds:List Deferred} {w:World}
variable {dst:Option Tmp} {ty:TypeId} {pos:String} {after:Array Edge} {g:Option (Nat×Bool)}
variable {w0:World} {rs rs':List Res} {μ μ':M}
variable {T:TypeId} {d:TypeDesc} {ag:Bool} {zc:List Value} {n m:Nat}
theorem s_storeR {x y:Operand} {b o off sz len k:Nat} {i:Int} {v vv:Value} {vs xs xs':List Value} {Tr:TypeId} {S S0:Nat→Prop} {A:World→Prop} (hT:TI P T ag zc n m) (hx:Ev fr x (.pointer (some ⟨b,o+off,none⟩))) (hy:Ev fr y vv) (hv:vv.cells=⟨vs⟩) (hn:vs.length=n) (hvc:vs.all cellV=true)
  (hS:Sep S S0 w0 w rs A) (hl:Lk rs k (.row v Tr sz len xs)) (he:Elv v sz i b o) (hoff:off+vs.length≤sz) (hxs:xs.take (i.toNat*sz+off)++vs++xs.drop (i.toNat*sz+off+vs.length)=xs') (hp:Pt rs k (.row v Tr sz len xs') rs')
  (hd:Dt fr dst undef fr') (h:∀ w',Sep S S0 w0 w' rs' A→K fr' ds w'):OW P (Oper.mk dst (.store T x y) ty pos after g) fr ds w K Q:=by
 have hrow:Row w v Tr sz len xs:=hS.get hl
 obtain ⟨o0,n0,c0,rfl,hi0,hin,rfl⟩:=he.out
 obtain ⟨hlen,h2⟩:=hrow
 rcases h2 with ⟨h2,-⟩ | ⟨g',o',cap,cur,h2,hg,hc1,hc2,hc3,hc4⟩
 ·cases h2
 ·cases h2
  have hi:i.toNat<len:=by omega
  have hmul:(i.toNat+1)*sz≤len*sz:=Nat.mul_le_mul_right _ hi
  have hmul2:len*sz≤c0*sz:=Nat.mul_le_mul_right _ hc1
  have hmul3:(i.toNat+1)*sz=i.toNat*sz+sz:=Nat.succ_mul ..
  have hbk:Blk w b Tr cur.toList:=hg
  have hle:(o0+i.toNat*sz+off)+0+vs.length≤(⟨cur.toList⟩:Array Value).size:=by simp; omega
  have hr:=run_storeCells_at P b (o0+i.toNat*sz+off) Tr vs 0 ⟨cur.toList⟩ w hbk hle fun v hv=>cell_one (List.all_eq_true.1 hvc v hv)
  have e1:vv.cells.toList=vs:=by rw [hv]
  have e2:¬ (vv.cells.size≠n):=by rw [hv]; simpa using hn
  have hT1:=hT.sizeOf (w:=w)
  simp only [Nat.add_zero] at hr
  have hcl:Keeps (fun k=>k≠b) w (w.setRow b (cur.toList.take (o0+i.toNat*sz+off)++vs++cur.toList.drop (o0+i.toNat*sz+off+vs.length)).toArray):=⟨rfl,rfl,rfl,by simp [World.setRow],fun k hk hs=>setRow_other w b k _ hs⟩
  refine op_u ?_ hd (h _ (hS.put (b:=b) hl rfl rfl hp ?_ hcl))
  ·simp only [execOp,Instr.storeAt,hx ds,hy ds,Instr.sureAddr,storeVar,Sem.run_bind,hT1,Result.andThen_ok,if_neg e2,e1,hr,Sem.run_pure]
  ·subst hxs
   refine ⟨by simp [hlen]; omega,.inr ⟨b,o0,c0,_,rfl,setRow_heap w b ⟨cur.toList⟩ _ Tr (0,0) hbk,hc1,hc2,?_,?_⟩⟩
   ·simp; omega
   ·subst hc4
    have:=drop_splice cur.toList vs o0 (i.toNat*sz+off) (len*sz) (by omega) (by simp; omega)
    rw [← Nat.add_assoc] at this
    exact this
class Lc (α β:Type) [Mo α] [Mo β] where
 code:α→List β
 set:α→List β→α
 hd:M→List Value→α→Prop
 up:∀ {μ μ':M} {l:List Value} {x:α},Le μ μ'→hd μ l x→hd μ' l x
 ln:∀ {μ:M} {l:List Value} {x:α},hd μ l x→l.length+1=Mo.sz α
 wr:∀ {μ:M} {l:List Value} {x:α} {ys:List β} {a:Option Addr} {c:Nat},hd μ l x→Sl μ a c ys→Mo.cs μ (l++[.slice a ys.length c]) (set x ys)
 st:∀ {μ:M} {l:List Value} {x:α} {ys:List β},hd μ l x→hd μ l (set x ys)
 sc:∀ {x:α},set x (code x)=x
 cs:∀ {x:α} {ys:List β},code (set x ys)=ys
variable {α β:Type} [Mo α] [Mo β] [Lc α β]
def lcode (us:List α):List β:=(us.getLast?.map Lc.code).getD []
def uset (us:List α) (ys:List β):List α:=us.dropLast++(us.getLast?.map fun x=>Lc.set x ys).toList
def Ru (μ:M) (cells:List Value) (cv:Value) (cc:List Value) (us:List α):Prop :=
 (us=[]∧cells=[]∧cv=.slice none 0 0∧cc=[])∨∃ init last pc lc,us=init++[last]∧cells=pc++(lc++[cv])∧Rw μ pc init∧Lc.hd β μ lc last∧Rw μ cc (Lc.code (β:=β) last)∧cellV cv=true
def Uo (β:Type) [Mo β] [Lc α β] (μ:M) (us:List α) (pc lc:List Value) (x:α):Prop:=∃ init,us=init++[x]∧Rw μ pc init∧Lc.hd β μ lc x
theorem Ru.up {cells:List Value} {cv:Value} {cc:List Value} {us:List α} (h:Ru (β:=β) μ cells cv cc us) (l:Le μ μ'):Ru (β:=β) μ' cells cv cc us:=by
 rcases h with h | ⟨init,last,pc,lc,h1,h2,h3,h4,h5,h6⟩
 ·exact .inl h
 ·exact .inr ⟨init,last,pc,lc,h1,h2,h3.up l,Lc.up l h4,h5.up l,h6⟩
theorem Ru.nil:Ru (α:=α) (β:=β) μ [] (.slice none 0 0) [] []:=.inl ⟨rfl,rfl,rfl,rfl⟩
@[simp] theorem lcode_app {init:List α} {x:α}:lcode (β:=β) (init++[x])=Lc.code x:=by simp [lcode]
@[simp] theorem uset_app {init:List α} {x:α} {ys:List β}:uset (init++[x]) ys=init++[Lc.set x ys]:=by simp [uset]
theorem _root_.Go.Wk.Sep.frzCode {cells cc:List Value} {cv:Value} {us:List α} {Tc:TypeId} (h:Sq μ w0 w (.row cv Tc (Mo.sz β) (lcode (β:=β) us).length cc::rs)) (hr:Ru (β:=β) μ cells cv cc us) :
  ∃ μ',Le μ μ'∧Rw μ' cells us∧Sq μ' w0 w rs:=by
 rcases hr with ⟨rfl,rfl,rfl,rfl⟩ | ⟨init,last,pc,lc,rfl,rfl,h3,h4,h5,h6⟩
 ·exact ⟨μ,Le.r,Rw.nil,h.drop .z⟩
 ·rw [lcode_app] at h
  obtain ⟨μ',a,c,rfl,hl,hs,h'⟩:=h.frzRow h5 rfl
  refine ⟨μ',hl,Rw.cat (Rw.one ?_) (h3.up hl),h'⟩
  have:=Lc.wr (Lc.up hl h4) hs
  rwa [Lc.sc] at this
theorem Ru.open {cells cc:List Value} {cv:Value} {us:List α} {i:Int} {x:α} (h:Ru (β:=β) μ cells cv cc us) (g:at_ us i=some x) (hi:i=us.length - 1) :
  ∃ pc lc,cells=pc++(lc++[cv])∧Rw μ cc (Lc.code (β:=β) x)∧lcode (β:=β) us=Lc.code x∧Uo β μ us pc lc x∧cellV cv=true:=by
 rcases h with ⟨rfl,rfl,rfl,rfl⟩ | ⟨init,last,pc,lc,rfl,rfl,h3,h4,h5,h6⟩
 ·simp [at_] at g
 ·have e:i.toNat=init.length:=by simp at hi; omega
  have g2:=(at_eq g).2.2
  rw [e] at g2
  simp at g2
  subst g2
  exact ⟨pc,lc,rfl,h5,lcode_app,⟨init,rfl,h3,h4⟩,h6⟩
theorem Uo.len {us:List α} {pc lc:List Value} {x:α} {i:Int} (h:Uo β μ us pc lc x) (g:at_ us i=some x) (hi:i=us.length - 1):pc.length=i.toNat*Mo.sz α∧lc.length+1=Mo.sz α:=by
 obtain ⟨init,rfl,h2,h3⟩:=h
 refine ⟨?_,Lc.ln h3⟩
 rw [h2.len]
 congr 1
 simp at hi; omega
theorem Uo.close {us:List α} {pc lc cc:List Value} {x:α} {v:Value} {ys:List β} (h:Uo β μ us pc lc x) (hc:Rw μ cc ys) (hv:cellV v=true) :
  Ru (β:=β) μ (pc++(lc++[v])) v cc (uset us ys)∧lcode (uset us ys)=ys∧(uset us ys).length=us.length:=by
 obtain ⟨init,rfl,h2,h3⟩:=h
 rw [uset_app]
 exact ⟨.inr ⟨init,_,pc,lc,rfl,rfl,h2,Lc.st h3,by rw [Lc.cs]; exact hc,hv⟩,by rw [lcode_app,Lc.cs],by simp⟩
theorem Row.lastCell {v cv:Value} {us:List α} {pc lc:List Value} {i:Int} {x:α} (h:Row w v T (Mo.sz α) us.length (pc++(lc++[cv]))) (hu:Uo β μ us pc lc x) (g:at_ us i=some x) (hi:i=us.length - 1) :
  ∃ b o,Elv v (Mo.sz α) i b o∧(∀ w T cv,Row w v T (Mo.sz α) us.length (pc++(lc++[cv]))→w.cell? ⟨b,o+lc.length,none⟩=some cv):=by
 obtain ⟨h0,h1,h2⟩:=at_eq g
 obtain ⟨b,o,c,rfl,hc⟩:=h.some' (by omega)
 obtain ⟨e1,e2⟩:=hu.len g hi
 refine ⟨b,o+i.toNat*Mo.sz α,⟨o,_,_,rfl,h0,h1,rfl⟩,fun w2 T2 cv2 hk=>?_⟩
 have:=hk.at' (pc.length+lc.length) cv2 (by simp)
 rw [← e1,Nat.add_assoc]
 exact this
theorem row_set {pc lc:List Value} {cv v:Value} {k sz:Nat} (h1:pc.length=k*sz):(pc++(lc++[cv])).take (k*sz+lc.length)++[v]++(pc++(lc++[cv])).drop (k*sz+lc.length+[v].length)=pc++(lc++[v]):=by
 rw [← h1]
 have e1:(pc++(lc++[cv])).take (pc.length+lc.length)=pc++lc:=by
  rw [← List.append_assoc]; exact List.take_left' (by simp)
 have e2:(pc++(lc++[cv])).drop (pc.length+lc.length+[v].length)=[]:=List.drop_eq_nil_of_le (by simp; omega)
 rw [e1,e2]; simp
theorem Ru.push {cells lc:List Value} {us l':List α} {x:α} (h:Rw μ cells us) (hx:Lc.hd β μ lc x) (hc:Lc.code (β:=β) x=[]) (g:app us [x]=some l'):Ru (β:=β) μ (cells++(lc++[.slice none 0 0])) (.slice none 0 0) [] l':=by
 obtain ⟨rfl,-⟩:=app_eq g
 exact .inr ⟨us,x,cells,lc,rfl,rfl,h,hx,by rw [hc]; exact Rw.nil,rfl⟩
theorem lcode_push {us l':List α} {x:α} (hc:Lc.code (β:=β) x=[]) (g:app us [x]=some l'):lcode (β:=β) l'=[]:=by
 obtain ⟨rfl,-⟩:=app_eq g
 rw [lcode_app,hc]
theorem s_storeU {x y:Operand} {b o off sz len k:Nat} {i:Int} {v vv cv:Value} {pc lc:List Value} {Tr:TypeId} {S S0:Nat→Prop} {A:World→Prop} (hT:TI P T false zc 1 m) (hx:Ev fr x (.pointer (some ⟨b,o+off,none⟩))) (hy:Ev fr y vv) (hcv:cellV vv=true)
  (hS:Sep S S0 w0 w rs A) (hl:Lk rs k (.row v Tr sz len (pc++(lc++[cv])))) (he:Elv v sz i b o) (h1:pc.length=i.toNat*sz∧lc.length+1=sz) (h2:lc.length=off) (hp:Pt rs k (.row v Tr sz len (pc++(lc++[vv]))) rs')
  (hd:Dt fr dst undef fr') (h:∀ w',Sep S S0 w0 w' rs' A→K fr' ds w'):OW P (Oper.mk dst (.store T x y) ty pos after g) fr ds w K Q:=by
 subst h2
 exact s_storeR hT hx hy (cells_one hcv) rfl (by simp [hcv]) hS hl he (by simp; omega) (row_set h1.1) hp hd h
end
end Go.Xt
namespace Go.Wk
open Go.RowKit
section
variable {P:Program} {Q:Exit→Act→World→Prop} {ops:Array Oper} {fr fr':List Value} {ds:List Deferred} {w:World}
end
end Go.Wk
namespace Go.Wk
open Go.RowKit
section
variable {P:Program} {Q:Exit→Act→World→Prop} {ops:Array Oper} {fr fr':List Value} {ds:List Deferred} {w:World}
abbrev Mon:=List Nat×(World→Prop)
def drp (i:Nat) (Ns:List Mon):List Mon:=Ns.filter fun m=>!m.1.contains i
def Mons:List Mon→World→Prop
 | [],_=>True
 | m::l,w=>m.2 w∧Mons l w
theorem Mons.mem {Ns:List Mon} {w:World}:Mons Ns w ↔ ∀ m ∈ Ns,m.2 w:=by
 induction Ns with
 | nil=>simp [Mons]
 | cons m l ih=>simp [Mons,ih]
theorem Mons.sub {Ns Ns':List Mon} (h:Mons Ns w) (hs:∀ m ∈ Ns',m ∈ Ns):Mons Ns' w:=Mons.mem.2 fun m hm=>Mons.mem.1 h m (hs m hm)
theorem drp_sub {i:Nat} {Ns:List Mon}:∀ m ∈ drp i Ns,m ∈ Ns:=fun m hm=>(List.mem_filter.1 hm).1
theorem drp_mono {i:Nat} {Ns Ns':List Mon} (h:∀ m ∈ Ns',m ∈ Ns):∀ m ∈ drp i Ns',m ∈ drp i Ns:=fun m hm=>List.mem_filter.2 ⟨h m (List.mem_filter.1 hm).1,(List.mem_filter.1 hm).2⟩
def wpOpsF (P:Program) (ops:Array Oper) (Q:Exit→Act→World→Prop):List Mon→List Nat→Act→World→Prop
 | _,[],a,w=>Q .normal a w
 | Ns,i::rest,a,w =>
  match ops[i]? with
  | none=>wpOpsF P ops Q (drp i Ns) rest a w
  | some o =>
   if Region.wanted o (yielded ops a.tmps) then o.wp P a w (fun a w=>Mons (drp i Ns) w∧wpOpsF P ops Q (drp i Ns) rest a w) Q∨(o.asks P a w∧LetsOut Q)
   else wpOpsF P ops Q (drp i Ns) rest (a.put o.dst undef) w
theorem wp_imp {o:Oper} {a:Act} {K K':Act→World→Prop} (h:o.wp P a w K Q) (hk:∀ a w,K a w→K' a w):o.wp P a w K' Q:=by
 unfold Oper.wp at h ⊢
 cases hr:(execOp a.eval o).run P w with
 | halt e w'=>rw [hr] at h; cases e <;> exact h
 | ok r w' =>
  rw [hr] at h
  cases r with
  | value x=>exact hk _ _ h
  | skip=>exact hk _ _ h
  | defer dd=>exact hk _ _ h
  | enter f args =>
   rw [Oper.upon_enter] at h ⊢
   refine Calls.mono h fun e w'' he=>?_
   cases e with
   | returned x=>exact hk _ _ he
   | panicked ch=>exact he
   | outgrown=>exact he
  | row r args =>
   rw [Oper.upon_row] at h ⊢
   exact Rows.mono h fun x w'' he=>hk _ _ he
  | _=>exact h
theorem wpOpsF.mono:∀ (π:List Nat) {Ns Ns':List Mon} {a:Act} {w:World},wpOpsF P ops Q Ns π a w→(∀ m ∈ Ns',m ∈ Ns)→wpOpsF P ops Q Ns' π a w
 | [],_,_,_,_,h,_=>h
 | i::π,Ns,Ns',a,w,h,hs=>by
  simp only [wpOpsF] at h ⊢
  cases ho:ops[i]? with
  | none=>rw [ho] at h; exact wpOpsF.mono π h (drp_mono hs)
  | some o =>
   rw [ho] at h
   simp only at h ⊢
   split
   ·rename_i hw
    rw [if_pos hw] at h
    rcases h with h | h
    ·exact .inl (wp_imp h fun a w ⟨h1,h2⟩=>⟨h1.sub (drp_mono hs),wpOpsF.mono π h2 (drp_mono hs)⟩)
    ·exact .inr h
   ·rename_i hw
    rw [if_neg hw] at h
    exact wpOpsF.mono π h (drp_mono hs)
theorem wpOpsF.plain:∀ (π:List Nat) {Ns:List Mon} {a:Act} {w:World},wpOpsF P ops Q Ns π a w→wpOps P ops Q π a w
 | [],_,_,_,h=>h
 | i::π,Ns,a,w,h=>by
  simp only [wpOpsF] at h
  simp only [wpOps]
  cases ho:ops[i]? with
  | none=>rw [ho] at h; exact wpOpsF.plain π h
  | some o =>
   rw [ho] at h
   simp only at h ⊢
   split
   ·rename_i hw
    rw [if_pos hw] at h
    rcases h with h | h
    ·exact .inl (wp_imp h fun a w ⟨_,h2⟩=>wpOpsF.plain π h2)
    ·exact .inr h
   ·rename_i hw
    rw [if_neg hw] at h
    exact wpOpsF.plain π h
theorem simF {N:World→Prop} {S:List Nat} {i d:Nat} (hQ:Blind Q d) {o:Oper} {v:Value} (ho:ops[i]?=some o) (hd:o.dst=some d) {wt:Bool} (hun:wt=false→v=undef) :
  ∀ (l1 l2:List Nat) (fr:List Value) (ds:List Deferred) (w:World) (Ns:List Mon),
   (∀ j ∈ l1,j ∉ S∧match ops[j]? with
    | some p=>noSel p.op=true∧(reads ops p).contains d=false∧p.dst≠some d∧(∀ e,p.dst=some e→(reads ops o).contains e=false)
    | none=>True) →
   N w→Mons Ns w→noSel o.op=true→Region.wanted o (yielded ops (F fr ds).tmps)=wt →
   (wt=true→∀ ds w,N w→(execOp (F fr ds).eval o).run P w=.ok (.value v) w) →
   wpOpsF P ops Q ((S,N)::Ns) (l1++l2) (F (fr.set d v) ds) w→wpOpsF P ops Q Ns (l1++i::l2) (F fr ds) w
 | [],l2,fr,ds,w,Ns,_,hw,hM,hno,hwt,hrun,h=>by
  simp only [List.nil_append] at h ⊢
  have h:=wpOpsF.mono l2 h (Ns':=drp i Ns) fun m hm=>List.mem_cons_of_mem _ (drp_sub m hm)
  simp only [wpOpsF,ho]
  cases wt with
  | true =>
   rw [if_pos hwt]
   left
   unfold Oper.wp
   rw [hrun rfl ds w hw,Oper.upon_value,hd]
   rw [show (F fr ds).put (some d) v=F (fr.set d v) ds from dt rfl ds]
   exact ⟨hM.sub drp_sub,h⟩
  | false =>
   rw [if_neg (by rw [hwt]; simp),hd,← hun rfl]
   rw [show (F fr ds).put (some d) v=F (fr.set d v) ds from dt rfl ds]
   exact h
 | j::l1,l2,fr,ds,w,Ns,hj,hw,hM,hno,hwt,hrun,h=>by
  obtain ⟨hjS,hj0⟩:=hj j (by simp)
  have hj1:∀ k ∈ l1,_:=fun k hk=>hj k (by simp [hk])
  have hdr:drp j ((S,N)::Ns)=(S,N)::drp j Ns:=by simp [drp,hjS]
  simp only [List.cons_append,wpOpsF,hdr] at h ⊢
  cases hp:ops[j]? with
  | none =>
   rw [hp] at h
   simp only at h ⊢
   exact simF hQ ho hd hun l1 l2 fr ds w _ hj1 hw (hM.sub drp_sub) hno hwt hrun h
  | some p =>
   rw [hp] at h hj0
   simp only at h hj0 ⊢
   obtain ⟨hns,hrd,hpd,hpo⟩:=hj0
   rw [wanted_set (fr:=fr) (v:=v) (ds:=ds) (ds':=ds) hrd] at h
   have key:∀ (x:Value) (w':World) (ds':List Deferred),N w'→Mons (drp j Ns) w'→wpOpsF P ops Q ((S,N)::drp j Ns) (l1++l2) ((F (fr.set d v) ds').put p.dst x) w'→wpOpsF P ops Q (drp j Ns) (l1++i::l2) ((F fr ds').put p.dst x) w':=by
    intro x w' ds' hw' hM' hk
    obtain ⟨g,g1,g2,g3⟩:=put_eq fr ds' p.dst x
    have hwt2:=wanted_put (ops:=ops) (o:=o) (p:=p) (ds':=ds') (fun y hy=>g3 fr y ds' ds' hy) hpo
    rw [g1] at hk ⊢
    rw [g2 _ _ _ hpd] at hk
    refine simF hQ ho hd hun l1 l2 (g fr) ds' w' _ hj1 hw' hM' hno (hwt2.trans hwt) (fun ht ds2 w2 hw2=>?_) hk
    rw [show execOp (F (g fr) ds2).eval o=execOp (F fr ds2).eval o from execOp_congr o hno fun y hy=>g3 fr y ds2 ds2 fun e he hs=>by
     exact reads_op (hpo e he) y hy hs]
    exact hrun ht ds2 w2 hw2
   by_cases hwt':Region.wanted p (yielded ops (F fr ds).tmps)=true
   ·rw [if_pos hwt'] at h ⊢
    rcases h with h | h
    ·left
     unfold Oper.wp at h ⊢
     rw [exec_set (ds':=ds) hns hrd] at h
     cases hr:(execOp (F fr ds).eval p).run P w with
     | halt e w' =>
      rw [hr] at h
      cases e <;> first | exact h | exact hQ _ _ _ _ _ h
     | ok r w' =>
      rw [hr] at h
      cases r with
      | value x=>exact ⟨h.1.2,key x w' ds h.1.1 h.1.2 h.2⟩
      | skip=>exact ⟨h.1.2,key undef w' ds h.1.1 h.1.2 h.2⟩
      | defer dd=>exact ⟨h.1.2,key undef w' (dd::ds) h.1.1 h.1.2 h.2⟩
      | enter f args =>
       rw [Oper.upon_enter] at h ⊢
       refine Calls.mono h fun e w'' he=>?_
       cases e with
       | returned x=>exact ⟨he.1.2,key x w'' ds he.1.1 he.1.2 he.2⟩
       | panicked ch=>exact hQ _ _ _ _ _ he
       | outgrown=>exact he
      | row r args =>
       rw [Oper.upon_row] at h ⊢
       exact Rows.mono h fun x w'' he=>⟨he.1.2,key x w'' ds he.1.1 he.1.2 he.2⟩
      | _=>exact h
    ·right
     refine ⟨?_,h.2⟩
     have h1:=h.1
     unfold Oper.asks at h1 ⊢
     rw [exec_set (ds':=ds) hns hrd] at h1
     exact h1
   ·rw [if_neg hwt'] at h ⊢
    exact key undef w ds hw (hM.sub drp_sub) h
structure SF (P:Program) (ops:Array Oper) (Q:Exit→Act→World→Prop) (Ns:List Mon) (R:List Nat) (fr:List Value) (ds:List Deferred) (w:World):Prop where
 out:Mons Ns w→∀ π,LinExt ops R π→wpOpsF P ops Q Ns π (F fr ds) w
theorem sf_start {R:List Nat} (h:SF P ops Q [] R fr ds w):SC P ops Q R fr ds w:=⟨fun π hπ=>wpOpsF.plain π (h.out trivial π hπ)⟩
theorem sf_nil {Ns:List Mon} (h:Q .normal (F fr ds) w):SF P ops Q Ns [] fr ds w:=⟨fun _ π hπ=>by
 cases hπ with
 | z=>exact h
 | s h _=>exact absurd (enabled_mem h) (by simp)⟩
def apartF (ops:Array Oper) (S R:List Nat) (i:Nat):Bool :=
 match ops[i]? with
 | some o=>match o.dst with
  | some d=>noSel o.op && R.all fun j=>S.contains j || (match ops[j]? with
    | some p=>noSel p.op && !(reads ops p).contains d && p.dst != some d && (match p.dst with | some e=>!(reads ops o).contains e | none=>true)
    | none=>true)
  | _=>false
 | none=>false
theorem sf_float {Ns:List Mon} {R R':List Nat} {i:Nat} (S:List Nat) (N:World→Prop) {wt:Bool} {dst:Tmp} {op:Op} {ty:TypeId} {pos:String} {after:Array Edge} {gd:Option (Nat×Bool)} {v:Value} (hQ:Blind Q dst) (hnd:(decide R.Nodup && enabled ops R i && waits ops R S i && apartF ops S R i && S.contains i)=true) (hR:R.erase i=R') (ho:ops[i]?=some ⟨some dst,op,ty,pos,after,gd⟩)
  (hwt:Region.wanted ⟨some dst,op,ty,pos,after,gd⟩ (yielded ops (F fr ds).tmps)=wt) (hun:wt=false→v=undef) (hN:N w)
  (hv:wt=true→∀ ds w',N w'→(execOp (F fr ds).eval ⟨some dst,op,ty,pos,after,gd⟩).run P w'=.ok (.value v) w') (hp:Pt fr dst v fr') (h:SF P ops Q ((S,N)::Ns) R' fr' ds w):SF P ops Q Ns R fr ds w:=⟨fun hM π hπ=>by
 simp only [Bool.and_eq_true,decide_eq_true_eq] at hnd
 obtain ⟨⟨⟨⟨hn,hen⟩,hwa⟩,hap⟩,-⟩:=hnd
 obtain ⟨l1,l2,rfl,h2,h3⟩:=hπ.split hn (enabled_mem hen) hen
 have hlat:=LinExt.later (S:=S) hπ hn (fun j hj=>by
  unfold waits at hwa
  have:=List.all_eq_true.1 hwa j hj
  simp only [Bool.or_eq_true,beq_iff_eq,List.any_eq_true,Bool.and_eq_true,List.contains_iff_mem] at this
  rcases this with h | ⟨k,k1,k2,k3⟩
  ·exact .inl h
  ·exact .inr ⟨k,k1,k2,k3⟩) l1 l2 rfl (fun hm=>(h3 i hm).2.1 rfl)
 unfold apartF at hap
 simp only [ho,Bool.and_eq_true,List.all_eq_true,Bool.or_eq_true,List.contains_iff_mem] at hap
 unfold Pt at hp
 subst hp
 subst hR
 refine simF hQ ho rfl hun (N:=N) (S:=S) (v:=v) l1 l2 fr ds w Ns (fun j hj=>⟨hlat j hj,?_⟩) hN hM hap.1 hwt hv (h.out ⟨hN,hM⟩ _ h2)
 obtain ⟨a,b,c⟩:=h3 j hj
 have:=hap.2 j a
 rcases this with h | h
 ·exact absurd h (hlat j hj)
 ·cases hp:ops[j]? with
  | none=>trivial
  | some p =>
   rw [hp] at h
   simp only [Bool.and_eq_true,Bool.not_eq_true',bne_iff_ne,ne_eq] at h
   obtain ⟨⟨⟨q1,q2⟩,q3⟩,q4⟩:=h
   refine ⟨q1,q2,q3,fun e he=>?_⟩
   rw [he] at q4; simpa using q4⟩
theorem sf_rd {Ns:List Mon} {R R':List Nat} {i:Nat} (S:List Nat) {dst:Tmp} {op:Op} {ty:TypeId} {pos:String} {after:Array Edge} {v:Value} (hQ:Blind Q dst) (hnd:(decide R.Nodup && enabled ops R i && waits ops R S i && apartF ops S R i && S.contains i)=true) (hR:R.erase i=R') (ho:ops[i]?=some ⟨some dst,op,ty,pos,after,none⟩)
  (hv:LU P ⟨some dst,op,ty,pos,after,none⟩ fr w v) (hp:Pt fr dst v fr') (h:SF P ops Q ((S,fun w'=>LU P ⟨some dst,op,ty,pos,after,none⟩ fr w' v)::Ns) R' fr' ds w):SF P ops Q Ns R fr ds w :=
 sf_float S _ (wt:=true) hQ hnd hR ho (wn0 rfl) (fun h=>by cases h) hv (fun _ ds w' hw=>hw.out ds) hp h
theorem sf_rdY {Ns:List Mon} {R R':List Nat} {i j d:Nat} {b:Bool} (S:List Nat) {dst:Tmp} {op:Op} {ty:TypeId} {pos:String} {after:Array Edge} {v:Value} (hQ:Blind Q dst) (hnd:(decide R.Nodup && enabled ops R i && waits ops R S i && apartF ops S R i && S.contains i)=true) (hR:R.erase i=R') (ho:ops[i]?=some ⟨some dst,op,ty,pos,after,some (j,b)⟩) (hj:(ops[j]?).bind (·.dst)=some d) (hl:Lk fr d (.bool b))
  (hv:LU P ⟨some dst,op,ty,pos,after,some (j,b)⟩ fr w v) (hp:Pt fr dst v fr') (h:SF P ops Q ((S,fun w'=>LU P ⟨some dst,op,ty,pos,after,some (j,b)⟩ fr w' v)::Ns) R' fr' ds w):SF P ops Q Ns R fr ds w :=
 sf_float S _ (wt:=true) hQ hnd hR ho (wanted_t rfl hj hl) (fun h=>by cases h) hv (fun _ ds w' hw=>hw.out ds) hp h
theorem wpOpsF.add {m:Mon} (hk:∀ w,m.2 w):∀ (π:List Nat) {Ns:List Mon} {a:Act} {w:World},wpOpsF P ops Q Ns π a w→wpOpsF P ops Q (m::Ns) π a w
 | [],_,_,_,h=>h
 | i::π,Ns,a,w,h=>by
  have hs:drp i (m::Ns)=m::drp i Ns∨drp i (m::Ns)=drp i Ns:=by
   unfold drp
   rw [List.filter_cons]
   split
   ·exact .inl rfl
   ·exact .inr rfl
  have key:∀ {a w},wpOpsF P ops Q (drp i Ns) π a w→wpOpsF P ops Q (drp i (m::Ns)) π a w:=fun h=>by
   rcases hs with e | e <;> rw [e]
   ·exact wpOpsF.add hk π h
   ·exact h
  have km:∀ {w},Mons (drp i Ns) w→Mons (drp i (m::Ns)) w:=fun h=>by
   rcases hs with e | e <;> rw [e]
   ·exact ⟨hk _,h⟩
   ·exact h
  simp only [wpOpsF] at h ⊢
  cases ho:ops[i]? with
  | none=>rw [ho] at h; exact key h
  | some o =>
   rw [ho] at h
   simp only at h ⊢
   split
   ·rename_i hw
    rw [if_pos hw] at h
    rcases h with h | h
    ·exact .inl (wp_imp h fun a w ⟨h1,h2⟩=>⟨km h1,key h2⟩)
    ·exact .inr h
   ·rename_i hw
    rw [if_neg hw] at h
    exact key h
theorem sf_add {Ns:List Mon} {m:Mon} {R:List Nat} (hk:∀ w,m.2 w) (h:SF P ops Q Ns R fr ds w):SF P ops Q (m::Ns) R fr ds w:=⟨fun hM π hπ=>wpOpsF.add hk π (h.out hM.2 π hπ)⟩
theorem sf_pu {Ns:List Mon} {R R':List Nat} {i:Nat} (S:List Nat) {dst:Tmp} {op:Op} {ty:TypeId} {pos:String} {after:Array Edge} {v:Value} (hQ:Blind Q dst) (hnd:(decide R.Nodup && enabled ops R i && waits ops R S i && apartF ops S R i && S.contains i)=true) (hR:R.erase i=R') (ho:ops[i]?=some ⟨some dst,op,ty,pos,after,none⟩)
  (hv:PU P ⟨some dst,op,ty,pos,after,none⟩ fr v) (hp:Pt fr dst v fr') (h:SF P ops Q Ns R' fr' ds w):SF P ops Q Ns R fr ds w :=
 sf_float S (fun _=>True) (wt:=true) hQ hnd hR ho (wn0 rfl) (fun h=>by cases h) trivial (fun _ ds w' _=>hv.out ds w') hp (sf_add (fun _=>trivial) h)
theorem sf_puY {Ns:List Mon} {R R':List Nat} {i j d:Nat} {b:Bool} (S:List Nat) {dst:Tmp} {op:Op} {ty:TypeId} {pos:String} {after:Array Edge} {v:Value} (hQ:Blind Q dst) (hnd:(decide R.Nodup && enabled ops R i && waits ops R S i && apartF ops S R i && S.contains i)=true) (hR:R.erase i=R') (ho:ops[i]?=some ⟨some dst,op,ty,pos,after,some (j,b)⟩) (hj:(ops[j]?).bind (·.dst)=some d) (hl:Lk fr d (.bool b))
  (hv:PU P ⟨some dst,op,ty,pos,after,some (j,b)⟩ fr v) (hp:Pt fr dst v fr') (h:SF P ops Q Ns R' fr' ds w):SF P ops Q Ns R fr ds w :=
 sf_float S (fun _=>True) (wt:=true) hQ hnd hR ho (wanted_t rfl hj hl) (fun h=>by cases h) trivial (fun _ ds w' _=>hv.out ds w') hp (sf_add (fun _=>trivial) h)
theorem sf_puN {Ns:List Mon} {R R':List Nat} {i j d:Nat} {b b':Bool} (S:List Nat) {dst:Tmp} {op:Op} {ty:TypeId} {pos:String} {after:Array Edge} (hQ:Blind Q dst) (hnd:(decide R.Nodup && enabled ops R i && waits ops R S i && apartF ops S R i && S.contains i)=true) (hR:R.erase i=R') (ho:ops[i]?=some ⟨some dst,op,ty,pos,after,some (j,b)⟩) (hj:(ops[j]?).bind (·.dst)=some d) (hl:Lk fr d (.bool b')) (hb:(b' == b)=false)
  (hp:Pt fr dst undef fr') (h:SF P ops Q Ns R' fr' ds w):SF P ops Q Ns R fr ds w :=
 sf_float S (fun _=>True) (wt:=false) hQ hnd hR ho ((wanted_y rfl hj hl).trans hb) (fun _=>rfl) trivial (fun h=>by cases h) hp (sf_add (fun _=>trivial) h)
theorem sf_puU {Ns:List Mon} {R R':List Nat} {i j d:Nat} {b:Bool} (S:List Nat) {dst:Tmp} {op:Op} {ty:TypeId} {pos:String} {after:Array Edge} (hQ:Blind Q dst) (hnd:(decide R.Nodup && enabled ops R i && waits ops R S i && apartF ops S R i && S.contains i)=true) (hR:R.erase i=R') (ho:ops[i]?=some ⟨some dst,op,ty,pos,after,some (j,b)⟩) (hj:(ops[j]?).bind (·.dst)=some d) (hl:Lk fr d undef)
  (hp:Pt fr dst undef fr') (h:SF P ops Q Ns R' fr' ds w):SF P ops Q Ns R fr ds w :=
 sf_float S (fun _=>True) (wt:=false) hQ hnd hR ho (wanted_u rfl hj hl) (fun _=>rfl) trivial (fun h=>by cases h) hp (sf_add (fun _=>trivial) h)
structure KF (P:Program) (ops:Array Oper) (Q:Exit→Act→World→Prop) (Ns:List Mon) (R:List Nat) (fr:List Value) (ds:List Deferred) (w:World):Prop where
 m:Mons Ns w
 s:SF P ops Q Ns R fr ds w
theorem Mons.s {m:Mon} {l:List Mon} (h:m.2 w) (k:Mons l w):Mons (m::l) w:=⟨h,k⟩
theorem Mons.z:Mons [] w:=trivial
theorem sf_all {Ns:List Mon} {R:List Nat} (h0:R≠[]) (h:∀ i ∈ nexts ops R,∃ o,ops[i]?=some o∧Region.wanted o (yielded ops (F fr ds).tmps)=true∧OW P o fr ds w (KF P ops Q (drp i Ns) (R.erase i)) Q):SF P ops Q Ns R fr ds w:=⟨fun hM π hπ=>by
 cases hπ with
 | z=>exact absurd rfl h0
 | @s _ π i hen ht =>
  obtain ⟨o,ho,hw,hi⟩:=h i (List.mem_filter.2 ⟨enabled_mem hen,hen⟩)
  simp only [wpOpsF,ho]
  rw [if_pos hw]
  exact .inl (hi.out _ fun fr' ds' w' hk=>⟨hk.m,hk.s.out hk.m _ ht⟩)⟩
theorem sf1 {Ns Ns':List Mon} {R:List Nat} {i:Nat} {R':List Nat} {o:Oper} (hn:nexts ops R=[i]) (hR:R.erase i=R') (hd:drp i Ns=Ns') (ho:ops[i]?=some o) (hw:Region.wanted o (yielded ops (F fr ds).tmps)=true)
  (h:OW P o fr ds w (KF P ops Q Ns' R') Q):SF P ops Q Ns R fr ds w :=
 sf_all (by intro e; subst e; cases hn) fun k hk=>by
  rw [hn] at hk
  simp at hk
  subst hk
  exact ⟨_,ho,hw,by rw [hR,hd]; exact h⟩
theorem sf2 {Ns Ni Nj:List Mon} {R:List Nat} {i j:Nat} {Ri Rj:List Nat} {oi oj:Oper} (hn:nexts ops R=[i,j]) (hRi:R.erase i=Ri) (hRj:R.erase j=Rj) (di:drp i Ns=Ni) (dj:drp j Ns=Nj) (hi:ops[i]?=some oi) (hj:ops[j]?=some oj) (wi:Region.wanted oi (yielded ops (F fr ds).tmps)=true) (wj:Region.wanted oj (yielded ops (F fr ds).tmps)=true)
  (h1:OW P oi fr ds w (KF P ops Q Ni Ri) Q) (h2:OW P oj fr ds w (KF P ops Q Nj Rj) Q):SF P ops Q Ns R fr ds w :=
 sf_all (by intro e; subst e; cases hn) fun k hk=>by
  rw [hn] at hk
  simp at hk
  rcases hk with rfl | rfl
  ·exact ⟨_,hi,wi,by rw [hRi,di]; exact h1⟩
  ·exact ⟨_,hj,wj,by rw [hRj,dj]; exact h2⟩
theorem sfs {Ns:List Mon} {R:List Nat} {frt frf:List Value} {d:Nat} {b:Bool} (hl:Lk fr d (.bool b)) (ht:Pt fr d (.bool true) frt) (hf:Pt fr d (.bool false) frf)
  (h1:b=true→SF P ops Q Ns R frt ds w) (h0:¬ b=true→SF P ops Q Ns R frf ds w):SF P ops Q Ns R fr ds w:=by
 cases b with
 | true=>have:=h1 rfl; rw [Pt.same hl ht] at this; exact this
 | false=>have:=h0 (by simp); rw [Pt.same hl hf] at this; exact this
theorem sfsd {Ns:List Mon} {R:List Nat} {frt frf:List Value} {d:Nat} {p:Prop} [Decidable p] (hl:Lk fr d (.bool (decide p))) (ht:Pt fr d (.bool true) frt) (hf:Pt fr d (.bool false) frf)
  (h1:p→SF P ops Q Ns R frt ds w) (h0:¬ p→SF P ops Q Ns R frf ds w):SF P ops Q Ns R fr ds w :=
 sfs hl ht hf (fun h=>h1 (of_decide_eq_true h)) (fun h=>h0 fun hp=>h (decide_eq_true hp))
end
end Go.Wk
namespace Go.Xt
open Go.Wk Go.RowKit
section
variable {P:Program} {Q:Exit→Act→World→Prop} {K:List Value→List Deferred→World→Prop} {fr fr':List Value} {ds:List Deferred} {w:World}
variable {dst:Option Tmp} {ty:TypeId} {pos:String} {after:Array Edge} {g:Option (Nat×Bool)}
variable {w0:World} {rs rs':List Res} {μ μ':M}
variable {T:TypeId} {d:TypeDesc} {ag:Bool} {zc:List Value} {n m:Nat}
theorem s_bsl0 {e:TypeId} {S S0:Nat→Prop} {A:World→Prop} (hT:P.underlying T=some (.slice e)) (hE:TI P e ag zc n m) (hS:Sep S S0 w0 w rs A)
  (h:∀ b w',w.heap.size≤b→Sep S S0 w0 w' (.blk b e []::rs) A→Put fr dst (.slice (some ⟨b,0,none⟩) 0 0) fun fr'=>K fr' ds w'):OW P (Oper.mk dst (.buildSlice T 0 ⟨[]⟩) ty pos after g) fr ds w K Q:=by
 obtain ⟨fr',hd⟩:=dt_ex fr dst (.slice (some ⟨w.heap.size,0,none⟩) 0 0)
 refine op_v (v:=.slice (some ⟨w.heap.size,0,none⟩) 0 0) (w':=w.alloc (.cells ⟨[]⟩ e)) ?_ hd (h _ _ (Nat.le_refl _) (hS.alloc rfl (heap_alloc_new w _)) fr' hd)
 have hE1:=hE.sizeOf (w:=w)
 obtain ⟨z,hzz,hc⟩:=hE.zero (w:=w)
 simp [execOp,Instr.buildSlice,Sem.run_bind,run_underlying hT,Result.andThen_ok,hE1,newRow,Instr.fill]
 have e0:Array.range 0=#[]:=Array.eq_empty_of_size_eq_zero (by simp)
 rw [e0,Array.map_empty]
theorem run_append_none {t ty:TypeId} {sz bytes:Nat} (ht:P.underlying t=some (.slice T)) (hE:TI P T ag zc sz bytes) {v:Value} {xs:List Value} (hr:Row w v T sz n xs) {a:Option Addr} {c:Nat} :
  (Builtin.append_ #[t,t] ty #[v,.slice a 0 c]).run P w=.ok v w:=by
 have hE1:=hE.sizeOf (w:=w)
 rcases hr.2 with ⟨rfl,rfl⟩ | ⟨g,o,cap,cur,rfl,hg,h1,h2,h3,h4⟩
 ·cases a <;> simp [Builtin.append_,run_underlying ht,hE1,Builtin.lenOf,Builtin.firstCells,loadCells,loadCellsFrom]
 ·cases a <;> simp [Builtin.append_,run_underlying ht,hE1,Builtin.lenOf,Builtin.firstCells,h1,storeCells,loadCells,loadCellsFrom]
theorem s_appS {α:Type} [Mo α] {t:TypeId} {s x:Operand} {v:Value} {bytes k c:Nat} {a:Option Addr} {cells news:List Value} {l ys l':List α} (ht:P.underlying t=some (.slice T)) (hE:TI P T ag zc (Mo.sz α) bytes) (hz:zc.length=Mo.sz α)
  (hs:Ev fr s v) (hx:Ev fr x (.slice a ys.length c)) (hS:Sq μ w0 w rs) (hl:Lk rs k (.row v T (Mo.sz α) l.length cells)) (hnews:ys≠[]→∃ b o,a=some ⟨b,o,none⟩∧At μ b o news) (hr:Rw μ news ys) (gg:app l ys=some l') (hb:bytes≤4096)
  (h:∀ v' w' rs',Pt rs k (.row v' T (Mo.sz α) l'.length (cells++news)) rs'→Sq μ w0 w' rs'→Put fr dst v' fun fr'=>K fr' ds w') :
  OW P (Oper.mk dst (.call { callee:=.builtin .append,args:=#[s,x],argTypes:=#[t,t] }) ty pos after g) fr ds w K Q:=by
 obtain ⟨h1,h2⟩:=app_len gg
 by_cases hy:ys=[]
 ·subst hy
  obtain rfl:news=[]:=hr
  have hrow:Row w v T (Mo.sz α) l.length cells:=hS.get hl
  obtain ⟨fr',hd⟩:=dt_ex fr dst v
  have hh:=h v w rs (by
   have:l'.length=l.length:=by simpa using h1
   rw [this,List.append_nil]
   unfold Pt
   obtain ⟨hlt,e⟩:=List.getElem?_eq_some_iff.1 (show rs[k]?=_ from hl)
   rw [← e]
   exact List.set_getElem_self hlt) hS
  refine op_v (v:=v) (w':=w) ?_ hd (hh fr' hd)
  have e1:=hs ds
  have e2:=hx ds
  have hr:=run_append_none (P:=P) (ty:=ty) (a:=a) (c:=c) ht hE hrow
  simp [execOp,resolve,invoke,builtin,e1,e2,hr]
 ·obtain ⟨b,o,rfl,hat⟩:=hnews hy
  exact s_append ht hE (by simp [hz,Mo.pos]) hs hx hS hl (hat _ hS.a) hr.len hr.cv ⟨h2,hb⟩ fun v' w' rs' hp=>h v' w' rs' (by rw [h1]; exact hp)
end
end Go.Xt
