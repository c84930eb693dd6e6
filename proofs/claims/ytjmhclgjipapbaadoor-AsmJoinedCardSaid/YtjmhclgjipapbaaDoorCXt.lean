/- The calculus Xt, over Wk: what is read stays read (facts of memory that nobody turns), what is owned is turned; cuts and loops by what the plain model still owes. -/
import Derived.Test.YtjmhclgjipapbaaDoorCWkDraw
import Derived.Test.YtjmhclgjipapbaaDoorCWkHeap3
set_option linter.unusedSectionVars false
set_option linter.unusedVariables false
set_option linter.unusedSimpArgs false
namespace Go.Xt
open Go.Wk Go.RowKit

/-- What is known of memory that nobody turns. -/
abbrev M := World → Prop
def Le (μ μ' : M) : Prop := ∀ w, μ' w → μ w
theorem Le.r {μ : M} : Le μ μ := fun _ h => h
theorem Le.t {a b c : M} (h : Le a b) (k : Le b c) : Le a c := fun w x => h w (k w x)
abbrev Sq (μ : M) (w0 w : World) (rs : List Res) : Prop := Sep (fun _ => False) (fun _ => True) w0 w rs μ
def At (μ : M) (b o : Nat) (cs : List Value) : Prop := ∀ w, μ w → CellsAt w b o cs
theorem At.up {μ μ' : M} {b o : Nat} {cs : List Value} (h : At μ b o cs) (l : Le μ μ') : At μ' b o cs := fun w k => h w (l w k)

/-- Data as cells. -/
class Mo (α : Type) where
  sz : Nat
  pos : 0 < sz
  cs : M → List Value → α → Prop
  ln : ∀ {μ : M} {l : List Value} {x : α}, cs μ l x → l.length = sz
  up : ∀ {μ μ' : M} {l : List Value} {x : α}, Le μ μ' → cs μ l x → cs μ' l x
  cv : ∀ {μ : M} {l : List Value} {x : α}, cs μ l x → l.all cellV = true
/-- A slice of what is read: its address and capacity. -/
structure SlR {α : Type} (sz : Nat) (R : List Value → α → Prop) (μ : M) (a : Option Addr) (c : Nat) (xs : List α) : Prop where
  le : xs.length ≤ c
  cap : c ≤ maxLen
  el : xs = [] ∨ ∃ b o, a = some ⟨b, o, none⟩ ∧ ∃ g : Nat → List Value, ∀ i x, xs[i]? = some x → At μ b (o + i * sz) (g i) ∧ R (g i) x
abbrev Sl {α : Type} [Mo α] (μ : M) (a : Option Addr) (c : Nat) (xs : List α) : Prop := SlR (Mo.sz α) (Mo.cs μ) μ a c xs
theorem SlR.imp {α : Type} {sz : Nat} {R R' : List Value → α → Prop} {μ μ' : M} {a : Option Addr} {c : Nat} {xs : List α} (h : SlR sz R μ a c xs) (l : Le μ μ') (hr : ∀ (i : Nat) (cs : List Value) (x : α), xs[i]? = some x → R cs x → R' cs x) : SlR sz R' μ' a c xs where
  le := h.le
  cap := h.cap
  el := by
    rcases h.el with h | ⟨b, o, ha, g, hg⟩
    · exact .inl h
    · exact .inr ⟨b, o, ha, g, fun i x hx => ⟨(hg i x hx).1.up l, hr i _ x hx (hg i x hx).2⟩⟩
theorem Sl.up {α : Type} [Mo α] {μ μ' : M} {a : Option Addr} {c : Nat} {xs : List α} (h : Sl μ a c xs) (l : Le μ μ') : Sl μ' a c xs := SlR.imp h l fun _ _ _ _ => Mo.up l
theorem Sl.nil {α : Type} [Mo α] {μ : M} {a : Option Addr} : Sl (α := α) μ a 0 [] := ⟨by simp, by simp, .inl rfl⟩
theorem Sl.len {α : Type} {sz : Nat} {R : List Value → α → Prop} {μ : M} {a : Option Addr} {c : Nat} {xs : List α} (h : SlR sz R μ a c xs) : xs.length ≤ 9223372036854775807 := Nat.le_trans h.le h.cap

instance : Mo Int where
  sz := 1
  pos := by decide
  cs _ l x := l = [.int .i64 x]
  ln h := by rw [h]; rfl
  up _ h := h
  cv h := by rw [h]; rfl
instance : Mo Bool where
  sz := 1
  pos := by decide
  cs _ l x := l = [.bool x]
  ln h := by rw [h]; rfl
  up _ h := h
  cv h := by rw [h]; rfl
instance {α : Type} [Mo α] : Mo (List α) where
  sz := 1
  pos := by decide
  cs μ l xs := ∃ a c, l = [.slice a xs.length c] ∧ Sl μ a c xs
  ln h := by obtain ⟨a, c, rfl, -⟩ := h; rfl
  up l h := by obtain ⟨a, c, h1, h2⟩ := h; exact ⟨a, c, h1, h2.up l⟩
  cv h := by obtain ⟨a, c, rfl, -⟩ := h; rfl
instance : Mo (List UInt8) where
  sz := 1
  pos := by decide
  cs _ l x := l = [S x]
  ln h := by rw [h]; rfl
  up _ h := h
  cv h := by rw [h]; rfl

/- what the plain models are made of -/
def i64 (n : Int) : Option Int := if -9223372036854775808 ≤ n ∧ n ≤ 9223372036854775807 then some n else none
def w64 (n : Int) : Int := IntKind.i64.wrap n
def w8 (n : Int) : Int := IntKind.u8.wrap n
def at_ {α : Type} (l : List α) (i : Int) : Option α := if 0 ≤ i then l[i.toNat]? else none
def cut {α : Type} (l : List α) (i j : Int) : Option (List α) := if 0 ≤ i ∧ i ≤ j ∧ j ≤ l.length then some ((l.take j.toNat).drop i.toNat) else none
def cat (a b : List UInt8) : Option (List UInt8) := if a.length + b.length ≤ 9223372036854775807 then some (a ++ b) else none
def app {α : Type} (l : List α) (xs : List α) : Option (List α) := if l.length + xs.length ≤ 4294967296 then some (l ++ xs) else none
def quo (a b : Int) : Option Int := if b = 0 then none else some (w64 (a.tdiv b))
def rem (a b : Int) : Option Int := if b = 0 then none else some (w64 (a.tmod b))
theorem bI {α β : Type} {o : Option α} {f : α → Option β} {r : β} (h : Option.bind o f = some r) : ∃ x, o = some x ∧ f x = some r := Option.bind_eq_some_iff.1 h
theorem iT {α : Type} {c : Prop} [Decidable c] {x y : α} {r : α} (hc : c) (h : (if c then x else y) = r) : x = r := by rwa [if_pos hc] at h
theorem iF {α : Type} {c : Prop} [Decidable c] {x y : α} {r : α} (hc : ¬ c) (h : (if c then x else y) = r) : y = r := by rwa [if_neg hc] at h
theorem i64_eq {n x : Int} (h : i64 n = some x) : x = n ∧ -9223372036854775808 ≤ n ∧ n ≤ 9223372036854775807 := by
  unfold i64 at h
  split at h
  · rename_i hc
    exact ⟨(Option.some.inj h).symm, hc⟩
  · cases h
theorem i64_wrap {n x : Int} (h : i64 n = some x) : IntKind.i64.wrap n = x := by
  obtain ⟨rfl, h1, h2⟩ := i64_eq h
  exact wr (by omega)
theorem at_eq {α : Type} {l : List α} {i : Int} {x : α} (h : at_ l i = some x) : 0 ≤ i ∧ i < l.length ∧ l[i.toNat]? = some x := by
  unfold at_ at h
  split at h
  · rename_i hc
    refine ⟨hc, ?_, h⟩
    have := (List.getElem?_eq_some_iff.1 h).1
    omega
  · cases h
theorem cut_eq {α : Type} {l ys : List α} {i j : Int} (h : cut l i j = some ys) : (0 ≤ i ∧ i ≤ j ∧ j ≤ l.length) ∧ ys = (l.take j.toNat).drop i.toNat := by
  unfold cut at h
  split at h
  · rename_i hc
    exact ⟨hc, (Option.some.inj h).symm⟩
  · cases h
theorem cat_eq {a b c : List UInt8} (h : cat a b = some c) : c = a ++ b ∧ a.length + b.length ≤ 9223372036854775807 := by
  unfold cat at h
  split at h
  · rename_i hc
    exact ⟨(Option.some.inj h).symm, hc⟩
  · cases h
theorem app_eq {α : Type} {a b c : List α} (h : app a b = some c) : c = a ++ b ∧ a.length + b.length ≤ 4294967296 := by
  unfold app at h
  split at h
  · rename_i hc
    exact ⟨(Option.some.inj h).symm, hc⟩
  · cases h

/- elements -/
/-- The address of the element i of a slice's value. -/
structure Elv (v : Value) (sz : Nat) (i : Int) (b o : Nat) : Prop where
  out : ∃ o0 n c, v = .slice (some ⟨b, o0, none⟩) n c ∧ 0 ≤ i ∧ i < n ∧ o0 + i.toNat * sz = o
theorem SlR.elem {α : Type} {sz : Nat} {R : List Value → α → Prop} {μ : M} {a : Option Addr} {c : Nat} {xs : List α} {i : Int} {x : α} (h : SlR sz R μ a c xs) (g : at_ xs i = some x) :
    ∃ b o cs, Elv (.slice a xs.length c) sz i b o ∧ At μ b o cs ∧ R cs x := by
  obtain ⟨h0, h1, h2⟩ := at_eq g
  rcases h.el with rfl | ⟨b, o, rfl, f, hf⟩
  · simp at h2
  · exact ⟨b, _, f i.toNat, ⟨o, _, _, rfl, h0, h1, rfl⟩, (hf _ _ h2).1, (hf _ _ h2).2⟩
/-- A row of cells as data. -/
def Rw {α : Type} [Mo α] (μ : M) : List Value → List α → Prop
  | cells, [] => cells = []
  | cells, x :: l => ∃ cs t, cells = cs ++ t ∧ Mo.cs μ cs x ∧ Rw μ t l
theorem Rw.len {α : Type} [Mo α] {μ : M} : ∀ {l : List α} {cells : List Value}, Rw μ cells l → cells.length = l.length * Mo.sz α
  | [], cells, h => by rw [Rw] at h; simp [h]
  | x :: l, cells, h => by
    rw [Rw] at h
    obtain ⟨cs, t, rfl, h1, h2⟩ := h
    simp [Rw.len h2, Mo.ln h1, Nat.add_mul, Nat.add_comm]
theorem Rw.up {α : Type} [Mo α] {μ μ' : M} (hl : Le μ μ') : ∀ {l : List α} {cells : List Value}, Rw μ cells l → Rw μ' cells l
  | [], cells, h => by rw [Rw] at h ⊢; exact h
  | x :: l, cells, h => by
    rw [Rw] at h ⊢
    obtain ⟨cs, t, h0, h1, h2⟩ := h
    exact ⟨cs, t, h0, Mo.up hl h1, Rw.up hl h2⟩
theorem Rw.cat {α : Type} [Mo α] {μ : M} {l' : List α} {cells' : List Value} (k : Rw μ cells' l') : ∀ {l : List α} {cells : List Value}, Rw μ cells l → Rw μ (cells ++ cells') (l ++ l')
  | [], cells, h => by rw [Rw] at h; subst h; exact k
  | x :: l, cells, h => by
    rw [Rw] at h
    obtain ⟨cs, t, rfl, h1, h2⟩ := h
    rw [List.cons_append, Rw]
    exact ⟨cs, t ++ cells', by simp, h1, Rw.cat k h2⟩
theorem Rw.nil {α : Type} [Mo α] {μ : M} : Rw μ [] ([] : List α) := rfl
theorem Rw.one {α : Type} [Mo α] {μ : M} {cs : List Value} {x : α} (h : Mo.cs μ cs x) : Rw μ cs [x] := ⟨cs, [], by simp, h, rfl⟩
theorem Rw.cons {α : Type} [Mo α] {μ : M} {cs t : List Value} {x : α} {l : List α} (h : Mo.cs μ cs x) (k : Rw μ t l) : Rw μ (cs ++ t) (x :: l) := ⟨cs, t, rfl, h, k⟩
theorem Rw.cv {α : Type} [Mo α] {μ : M} : ∀ {l : List α} {cells : List Value}, Rw μ cells l → cells.all cellV = true
  | [], cells, h => by rw [Rw] at h; simp [h]
  | x :: l, cells, h => by
    rw [Rw] at h
    obtain ⟨cs, t, rfl, h1, h2⟩ := h
    rw [List.all_append, Mo.cv h1, Rw.cv h2]; rfl
theorem Rw.get {α : Type} [Mo α] {μ : M} : ∀ {l : List α} {cells : List Value} {i : Nat} {x : α}, Rw μ cells l → l[i]? = some x → Mo.cs μ ((cells.drop (i * Mo.sz α)).take (Mo.sz α)) x
  | [], cells, i, x, h, hx => by simp at hx
  | y :: l, cells, i, x, h, hx => by
    rw [Rw] at h
    obtain ⟨cs, t, rfl, h1, h2⟩ := h
    cases i with
    | zero => simp at hx; subst hx; simp [← Mo.ln h1]; exact h1
    | succ i =>
      simp at hx
      have := Rw.get h2 hx
      have e : (i + 1) * Mo.sz α = cs.length + i * Mo.sz α := by rw [Nat.add_mul, Mo.ln h1]; omega
      rw [e, ← List.drop_drop]
      simpa using this
/-- The cells of a slice that is read, in a row. -/
theorem Sl.cells {α : Type} [Mo α] {μ : M} {a : Option Addr} {c : Nat} : ∀ {xs : List α}, Sl μ a c xs → ∃ cells, Rw μ cells xs ∧ (xs ≠ [] → ∃ b o, a = some ⟨b, o, none⟩ ∧ At μ b o cells) := by
  intro xs h
  rcases h.el with rfl | ⟨b, o, rfl, g, hg⟩
  · exact ⟨[], rfl, fun h => absurd rfl h⟩
  · have key : ∀ (l : List α) (k : Nat), xs.drop k = l → ∃ cells, Rw μ cells l ∧ At μ b (o + k * Mo.sz α) cells := by
      intro l
      induction l with
      | nil => intro k _; exact ⟨[], rfl, fun w _ j v hj => by simp at hj⟩
      | cons x l ih =>
        intro k hk
        have hx : xs[k]? = some x := by
          have := congrArg (fun l => l[0]?) hk
          simpa using this
        obtain ⟨cells, h1, h2⟩ := ih (k + 1) (by rw [← List.tail_drop, hk]; rfl)
        obtain ⟨h3, h4⟩ := hg k x hx
        refine ⟨g k ++ cells, Rw.cons h4 h1, fun w hw j v hj => ?_⟩
        rcases Nat.lt_or_ge j (g k).length with hl | hl
        · rw [List.getElem?_append_left hl] at hj
          exact h3 w hw j v hj
        · rw [List.getElem?_append_right hl] at hj
          have := h2 w hw _ v hj
          rw [Mo.ln h4] at this hl
          rw [show o + (k + 1) * Mo.sz α + (j - Mo.sz α) = o + k * Mo.sz α + j by rw [Nat.add_mul]; omega] at this
          exact this
    obtain ⟨cells, h1, h2⟩ := key xs 0 rfl
    exact ⟨cells, h1, fun _ => ⟨b, o, rfl, by simpa using h2⟩⟩

section
variable {P : Program} {Q : Exit → Act → World → Prop} {K : List Value → List Deferred → World → Prop} {fr fr' : List Value} {ds : List Deferred} {w : World}
variable {dst : Option Tmp} {ty : TypeId} {pos : String} {after : Array Edge} {g : Option (Nat × Bool)}
variable {w0 : World} {rs rs' : List Res} {μ : M}
variable {T : TypeId} {d : TypeDesc} {ag : Bool} {zc : List Value} {n m : Nat}

/-- A cut behind a piece of code. -/
theorem ccutE {c : Code} (Tl : List Nat) (hT : Tl.Nodup) (Φ : List Mk → World → Prop) (hΦ : ∀ m w, Φ m w → opens m = Tl)
    (h : CW P c (Exit.then (fun a' w' => ∃ m fr', a' = F fr' ds ∧ Ag m fr fr' ∧ Φ m w') Q) fr ds w)
    (k : ∀ m t w, Φ m w → Q .normal (F (mrg t m fr) ds) w) : CW P c Q fr ds w := ⟨
  wp_mono h.out fun e a w' hq => by
    cases e with
    | normal =>
      obtain ⟨m, fr', rfl, hag, hI⟩ := hq
      obtain ⟨t', ht'⟩ := hag.ex (by rw [hΦ m w' hI]; exact hT)
      have := k m t' w' hI
      rw [← ht'] at this
      exact this
    | exit id => exact hq
    | goto l => exact hq
    | ret => exact hq
    | panic ch => exact hq
    | outgrown => exact hq⟩
/-- A cut behind two pieces of code. -/
theorem ccutE2 {c c' e : Code} (Tl : List Nat) (hT : Tl.Nodup) (Φ : List Mk → World → Prop) (hΦ : ∀ m w, Φ m w → opens m = Tl)
    (h : CW P c (Exit.then (Nx P c' (Exit.then (fun a' w' => ∃ m fr', a' = F fr' ds ∧ Ag m fr fr' ∧ Φ m w') Q)) Q) fr ds w)
    (k : ∀ m t w, Φ m w → CW P e Q (mrg t m fr) ds w) : CW P (.seq c (.seq c' e)) Q fr ds w := by
  refine cseq ⟨wp_mono h.out fun x a w' hq => ?_⟩
  cases x with
  | normal =>
    obtain ⟨fr1, ds1, rfl, h1⟩ := hq
    refine ⟨fr1, ds1, rfl, cseq ⟨wp_mono h1.out fun x a w' hq => ?_⟩⟩
    cases x with
    | normal =>
      obtain ⟨m, fr', rfl, hag, hI⟩ := hq
      obtain ⟨t', ht'⟩ := hag.ex (by rw [hΦ m w' hI]; exact hT)
      have := k m t' w' hI
      rw [← ht'] at this
      exact ⟨_, _, rfl, this⟩
    | exit id => exact hq
    | goto l => exact hq
    | ret => exact hq
    | panic ch => exact hq
    | outgrown => exact hq
  | exit id => exact hq
  | goto l => exact hq
  | ret => exact hq
  | panic ch => exact hq
  | outgrown => exact hq
/-- A loop: what holds at its head, with what is left of fuel. -/
theorem cloopE {c : Code} (Tl : List Nat) (hT : Tl.Nodup) (Φ : Nat → List Mk → World → Prop) (hΦ : ∀ n m w, Φ n m w → opens m = Tl) (n0 : Nat) (m0 : List Mk) (h0 : Ag m0 fr fr) (hJ : Φ n0 m0 w)
    (round : ∀ n m t w, Φ n m w → CW P c (Exit.then (fun a' w' => ∃ n' m' fr', a' = F fr' ds ∧ Ag m' fr fr' ∧ Φ n' m' w' ∧ n' < n) Q) (mrg t m fr) ds w) : CW P (.loop c) Q fr ds w := by
  refine cloop (α := { p : Nat × List Mk // opens p.2 = Tl }) Tl hT (fun p => p.1.2) (fun p => p.2) (fun p w => Φ p.1.1 p.1.2 w) (fun p _ => p.1.1) ⟨(n0, m0), hΦ n0 m0 w hJ⟩ h0 hJ fun p t w hp => ?_
  refine (round p.1.1 p.1.2 t w hp).mono (then_mono fun a w' ⟨n', m', fr', h1, h2, h3, h4⟩ => ⟨⟨(n', m'), hΦ n' m' w' h3⟩, fr', h1, h2, h3, h4⟩)
theorem cifb {c : Operand} {x y : Code} {b : Bool} (hc : Ev fr c (.bool b)) (h1 : b = true → CW P x Q fr ds w) (h2 : ¬ b = true → CW P y Q fr ds w) : CW P (.cond c x y) Q fr ds w :=
  cif hc h1 fun h => h2 (by rw [h]; simp)
theorem cifnd {c : Operand} {x y : Code} {p : Prop} [Decidable p] (hc : Ev fr c (.bool (!decide p))) (h1 : ¬ p → CW P x Q fr ds w) (h2 : p → CW P y Q fr ds w) : CW P (.cond c x y) Q fr ds w :=
  cif hc (fun h => h1 (by simpa using h)) fun h => h2 (by simpa using h)
theorem cifnb {c : Operand} {x y : Code} {b : Bool} (hc : Ev fr c (.bool (!b))) (h1 : ¬ b = true → CW P x Q fr ds w) (h2 : b = true → CW P y Q fr ds w) : CW P (.cond c x y) Q fr ds w :=
  cif hc (fun h => h1 (by simpa using h)) fun h => h2 (by simpa using h)
theorem wspb {ops : Array Oper} {l : List Oper} {frt frf : List Value} {d : Nat} {b : Bool} (hl : Lk fr d (.bool b)) (ht : Pt fr d (.bool true) frt) (hf : Pt fr d (.bool false) frf)
    (h1 : b = true → WL P ops Q l frt ds w) (h0 : ¬ b = true → WL P ops Q l frf ds w) : WL P ops Q l fr ds w := wsp hl ht hf h1 fun h => h0 (by rw [h]; simp)
theorem wspnd {ops : Array Oper} {l : List Oper} {frt frf : List Value} {d : Nat} {p : Prop} [Decidable p] (hl : Lk fr d (.bool (!decide p))) (ht : Pt fr d (.bool true) frt) (hf : Pt fr d (.bool false) frf)
    (h1 : ¬ p → WL P ops Q l frt ds w) (h0 : p → WL P ops Q l frf ds w) : WL P ops Q l fr ds w := wsp hl ht hf (fun h => h1 (by simpa using h)) fun h => h0 (by simpa using h)
theorem wspnb {ops : Array Oper} {l : List Oper} {frt frf : List Value} {d : Nat} {b : Bool} (hl : Lk fr d (.bool (!b))) (ht : Pt fr d (.bool true) frt) (hf : Pt fr d (.bool false) frf)
    (h1 : ¬ b = true → WL P ops Q l frt ds w) (h0 : b = true → WL P ops Q l frf ds w) : WL P ops Q l fr ds w := wsp hl ht hf (fun h => h1 (by simpa using h)) fun h => h0 (by simpa using h)

/- what is owned: order -/
/-- What is owned at place k comes first. -/
inductive Bg : List Res → Nat → List Res → Prop where
  | z {rs : List Res} : Bg rs 0 rs
  | s {a r : Res} {rs rs' : List Res} {k : Nat} (h : Bg rs k (r :: rs')) : Bg (a :: rs) (k + 1) (r :: a :: rs')
theorem Bg.perm {k : Nat} {rs rs' : List Res} (h : Bg rs k rs') : rs.Perm rs' := by
  induction h with
  | z => exact .refl _
  | s _ ih => exact (ih.cons _).trans (.swap _ _ _)
theorem _root_.Go.Wk.Sep.bg {k : Nat} {S S0 : Nat → Prop} {A : World → Prop} (h : Sep S S0 w0 w rs A) (hp : Bg rs k rs') : Sep S S0 w0 w rs' A where
  keeps := h.keeps
  all r hr := h.all r (hp.perm.mem_iff.2 hr)
  dis := (hp.perm.filterMap _).nodup_iff.1 h.dis
  new b hb := h.new b ((hp.perm.filterMap _).mem_iff.2 hb)
  imm := h.imm.mono fun k _ hs => ⟨hs.1, fun hm => hs.2 ((hp.perm.filterMap Res.block).mem_iff.2 hm)⟩
/-- What is owned first is read from now on. -/
theorem _root_.Go.Wk.Sep.frz {r : Res} {B : World → Prop} (h : Sq μ w0 w (r :: rs)) (hB : ∀ w, r.holds w → B w) : Sq (fun w => μ w ∧ B w) w0 w rs :=
  Sep.freeze h (d0 (α := Res)) Rm.z (fun _ _ => .inl trivial) hB
theorem _root_.Go.Wk.Sep.frzRow {α : Type} [Mo α] {v : Value} {cells : List Value} {l : List α} (h : Sq μ w0 w (.row v T (Mo.sz α) n cells :: rs)) (hr : Rw μ cells l) (hn : l.length = n) :
    ∃ μ' a c, v = .slice a l.length c ∧ Le μ μ' ∧ Sl μ' a c l ∧ Sq μ' w0 w rs := by
  have hrow : Row w v T (Mo.sz α) n cells := h.all _ (List.mem_cons_self ..)
  have h' := Sep.frz (B := fun w => Row w v T (Mo.sz α) n cells) h fun w hw => hw
  have hle : Le μ (fun w => μ w ∧ Row w v T (Mo.sz α) n cells) := fun w hw => hw.1
  rcases hrow.2 with ⟨rfl, rfl⟩ | ⟨g, o, cap, cur, rfl, hg, h1, h2, h3, h4⟩
  · obtain rfl := List.eq_nil_of_length_eq_zero hn
    exact ⟨_, none, 0, rfl, hle, Sl.nil, h'⟩
  · subst hn
    refine ⟨_, some ⟨g, o, none⟩, cap, rfl, hle, ⟨h1, h2, .inr ⟨g, o, rfl, fun i => (cells.drop (i * Mo.sz α)).take (Mo.sz α), fun i x hx => ⟨?_, ?_⟩⟩⟩, h'⟩
    · intro w2 hw2 j u hj
      obtain ⟨-, hk⟩ := hw2
      have hpos : 0 < l.length := by have := (List.getElem?_eq_some_iff.1 hx).1; omega
      obtain ⟨b, o', c, hv, hc⟩ := hk.some' hpos
      simp at hv
      obtain ⟨⟨rfl, rfl⟩, rfl⟩ := hv
      have hjl : j < Mo.sz α := by
        have := (List.getElem?_eq_some_iff.1 hj).1
        simp at this; omega
      rw [List.getElem?_take_of_lt hjl, List.getElem?_drop] at hj
      have := hc _ u hj
      rw [← Nat.add_assoc] at this
      exact this
    · exact Mo.up hle (hr.get hx)
theorem _root_.Go.Wk.Sep.frzBlk {α : Type} [Mo α] {b : Nat} {cells : List Value} {l : List α} (h : Sq μ w0 w (.blk b T cells :: rs)) (hr : Rw μ cells l) (hlen : l.length ≤ maxLen) :
    ∃ μ', Le μ μ' ∧ Sl μ' (some ⟨b, 0, none⟩) l.length l ∧ Sq μ' w0 w rs := by
  have h' := Sep.frz (B := fun w => Blk w b T cells) h fun w hw => hw
  have hle : Le μ (fun w => μ w ∧ Blk w b T cells) := fun w hw => hw.1
  refine ⟨_, hle, ⟨Nat.le_refl _, hlen, .inr ⟨b, 0, rfl, fun i => (cells.drop (i * Mo.sz α)).take (Mo.sz α), fun i x hx => ⟨?_, Mo.up hle (hr.get hx)⟩⟩⟩, h'⟩
  intro w2 hw2 j u hj
  have hjl : j < Mo.sz α := by
    have := (List.getElem?_eq_some_iff.1 hj).1
    simp at this; omega
  rw [List.getElem?_take_of_lt hjl, List.getElem?_drop] at hj
  have := hw2.2.cells _ u hj
  rw [Nat.zero_add] at this ⊢
  exact this
/-- Cells that are owned are read from now on. -/
theorem _root_.Go.Wk.Sep.frzAt {b : Nat} {cells : List Value} (h : Sq μ w0 w (.blk b T cells :: rs)) : ∃ μ', Le μ μ' ∧ At μ' b 0 cells ∧ Sq μ' w0 w rs :=
  ⟨_, fun _ hw => hw.1, fun _ hw => hw.2.cells, Sep.frz (B := fun w => Blk w b T cells) h fun _ hw => hw⟩
/-- A slice that is written out is a row. -/
theorem _root_.Go.Wk.Sep.blkRow {sz : Nat} {b k : Nat} {cells : List Value} {S S0 : Nat → Prop} {A : World → Prop} (h : Sep S S0 w0 w rs A) (hl : Lk rs k (.blk b T cells)) (hn : cells.length = n * sz) (hlen : n ≤ maxLen)
    (hp : Pt rs k (.row (.slice (some ⟨b, 0, none⟩) n n) T sz n cells) rs') : Sep S S0 w0 w rs' A := by
  have hb : Blk w b T cells := h.get hl
  refine h.put (b := b) hl rfl rfl hp ⟨hn, .inr ⟨b, 0, n, ⟨cells⟩, rfl, hb, Nat.le_refl _, hlen, by simp [hn], by simp [← hn]⟩⟩ (Keeps.refl _)
theorem _root_.Go.Wk.Row.elem {α : Type} [Mo α] {v : Value} {cells : List Value} {l : List α} {i : Int} {x : α} (h : Row w v T (Mo.sz α) n cells) (hr : Rw μ cells l) (hn : l.length = n) (g : at_ l i = some x) :
    ∃ b o cs, Elv v (Mo.sz α) i b o ∧ (∀ w T, Row w v T (Mo.sz α) n cells → CellsAt w b o cs) ∧ Mo.cs μ cs x := by
  obtain ⟨h0, h1, h2⟩ := at_eq g
  obtain ⟨b, o, c, rfl, hc⟩ := h.some' (by omega)
  subst hn
  refine ⟨b, o + i.toNat * Mo.sz α, _, ⟨o, _, _, rfl, h0, h1, rfl⟩, ?_, hr.get h2⟩
  intro w2 T2 hk j u hj
  obtain ⟨b', o', c', hv, hc'⟩ := hk.some' (by omega)
  simp at hv
  obtain ⟨⟨rfl, rfl⟩, rfl⟩ := hv
  have hjl : j < Mo.sz α := by
    have := (List.getElem?_eq_some_iff.1 hj).1
    simp at this; omega
  rw [List.getElem?_take_of_lt hjl, List.getElem?_drop] at hj
  have := hc' _ u hj
  rw [← Nat.add_assoc] at this
  exact this

/- steps -/
theorem u_iax {x y : Operand} {v : Value} {b o sz : Nat} {k : IntKind} {i : Int} {e : TypeId} (hT : P.underlying T = some (.slice e)) (hE : TI P e ag zc sz m) (hx : Ev fr x v) (hy : Ev fr y (.int k i)) (he : Elv v sz i b o) : PU P (Oper.mk dst (.indexAddr T x y) ty pos after g) fr ((.pointer (some ⟨b, o, none⟩))) := by
  obtain ⟨o0, n, c, rfl, h0, h1, h2⟩ := he.out
  exact u_ia hT hE hx hy ⟨h0, h1⟩ h2
theorem s_iax {x y : Operand} {v : Value} {b o sz : Nat} {k : IntKind} {i : Int} {e : TypeId} (hT : P.underlying T = some (.slice e)) (hE : TI P e ag zc sz m) (hx : Ev fr x v) (hy : Ev fr y (.int k i)) (he : Elv v sz i b o) (hp : Dt fr dst ((.pointer (some ⟨b, o, none⟩))) fr') (h : K fr' ds w) : OW P (Oper.mk dst (.indexAddr T x y) ty pos after g) fr ds w K Q := su (u_iax hT hE hx hy he) hp h
theorem u_addc {x y : Operand} {t t' : TypeId} {a b c : Int} (hx : Ev fr x (.int .i64 a)) (hy : Ev fr y (.int .i64 b)) (h : i64 (a + b) = some c) : PU P (Oper.mk dst (.binOp .add t x y t') ty pos after g) fr ((.int .i64 c)) := u_add hx hy (i64_wrap h)
theorem s_addc {x y : Operand} {t t' : TypeId} {a b c : Int} (hx : Ev fr x (.int .i64 a)) (hy : Ev fr y (.int .i64 b)) (h : i64 (a + b) = some c) (hp : Dt fr dst ((.int .i64 c)) fr') (k : K fr' ds w) : OW P (Oper.mk dst (.binOp .add t x y t') ty pos after g) fr ds w K Q := su (u_addc hx hy h) hp k
theorem u_subc {x y : Operand} {t t' : TypeId} {a b c : Int} (hx : Ev fr x (.int .i64 a)) (hy : Ev fr y (.int .i64 b)) (h : i64 (a - b) = some c) : PU P (Oper.mk dst (.binOp .sub t x y t') ty pos after g) fr ((.int .i64 c)) := u_sub hx hy (i64_wrap h)
theorem s_subc {x y : Operand} {t t' : TypeId} {a b c : Int} (hx : Ev fr x (.int .i64 a)) (hy : Ev fr y (.int .i64 b)) (h : i64 (a - b) = some c) (hp : Dt fr dst ((.int .i64 c)) fr') (k : K fr' ds w) : OW P (Oper.mk dst (.binOp .sub t x y t') ty pos after g) fr ds w K Q := su (u_subc hx hy h) hp k
theorem u_mulc {x y : Operand} {t t' : TypeId} {a b c : Int} (hx : Ev fr x (.int .i64 a)) (hy : Ev fr y (.int .i64 b)) (h : i64 (a * b) = some c) : PU P (Oper.mk dst (.binOp .mul t x y t') ty pos after g) fr ((.int .i64 c)) := u_mul hx hy (i64_wrap h)
theorem s_mulc {x y : Operand} {t t' : TypeId} {a b c : Int} (hx : Ev fr x (.int .i64 a)) (hy : Ev fr y (.int .i64 b)) (h : i64 (a * b) = some c) (hp : Dt fr dst ((.int .i64 c)) fr') (k : K fr' ds w) : OW P (Oper.mk dst (.binOp .mul t x y t') ty pos after g) fr ds w K Q := su (u_mulc hx hy h) hp k
theorem quo_nz {a b c : Int} (h : quo a b = some c) : b ≠ 0 ∧ IntKind.i64.wrap (a.tdiv b) = c := by
  unfold quo at h
  split at h
  · cases h
  · rename_i hb
    exact ⟨hb, Option.some.inj h⟩
theorem rem_nz {a b c : Int} (h : rem a b = some c) : b ≠ 0 ∧ w64 (a.tmod b) = c := by
  unfold rem at h
  split at h
  · cases h
  · rename_i hb
    exact ⟨hb, Option.some.inj h⟩
theorem u_idxc {x y : Operand} {t : TypeId} {k : IntKind} {a : List UInt8} {i : Int} {c : UInt8} (ht : P.underlying t = some .string) (hx : Ev fr x (S a)) (hy : Ev fr y (.int k i)) (h : at_ a i = some c) : PU P (Oper.mk dst (.index t x y) ty pos after g) fr (.int .u8 c.toNat) := u_idxs ht hx hy (at_eq h).1 (at_eq h).2.2
theorem s_idxc {x y : Operand} {t : TypeId} {k : IntKind} {a : List UInt8} {i : Int} {c : UInt8} (ht : P.underlying t = some .string) (hx : Ev fr x (S a)) (hy : Ev fr y (.int k i)) (h : at_ a i = some c) (hp : Dt fr dst (.int .u8 c.toNat) fr') (kk : K fr' ds w) : OW P (Oper.mk dst (.index t x y) ty pos after g) fr ds w K Q := su (u_idxc ht hx hy h) hp kk
theorem u_catc {x y : Operand} {t t' : TypeId} {a b c : List UInt8} (hx : Ev fr x (S a)) (hy : Ev fr y (S b)) (h : cat a b = some c) : PU P (Oper.mk dst (.binOp .add t x y t') ty pos after g) fr (S c) := by
  obtain ⟨rfl, hl⟩ := cat_eq h
  exact u_cat hx hy hl
theorem s_catc {x y : Operand} {t t' : TypeId} {a b c : List UInt8} (hx : Ev fr x (S a)) (hy : Ev fr y (S b)) (h : cat a b = some c) (hp : Dt fr dst (S c) fr') (k : K fr' ds w) : OW P (Oper.mk dst (.binOp .add t x y t') ty pos after g) fr ds w K Q := su (u_catc hx hy h) hp k
/-- A slice of a slice. -/
structure Slc (v : Value) (sz : Nat) (i j : Option Int) (v' : Value) : Prop where
  out : ∃ a n c, v = .slice a n c ∧ 0 ≤ i.getD 0 ∧ i.getD 0 ≤ j.getD n ∧ j.getD n ≤ c ∧ v' = .slice (if c = (i.getD 0).toNat then a else a.map (·.add ((i.getD 0).toNat * sz))) ((j.getD n).toNat - (i.getD 0).toNat) (c - (i.getD 0).toNat)
/-- Operands of bounds. -/
inductive Ob (fr : List Value) : Option Operand → Option Int → Prop where
  | n : Ob fr none none
  | s {x : Operand} {i : Int} (h : Ev fr x (.int .i64 i)) : Ob fr (some x) (some i)
theorem u_slc {x : Operand} {lo up : Option Operand} {v v' : Value} {sz : Nat} {i j : Option Int} {e : TypeId} (hT : P.underlying T = some (.slice e)) (hE : TI P e ag zc sz m) (hx : Ev fr x v) (hi : Ob fr lo i) (hj : Ob fr up j) (he : Slc v sz i j v') : PU P (Oper.mk dst (.slice T x lo up none) ty pos after g) fr v' := by
  obtain ⟨a, n, c, rfl, h0, h1, h2, rfl⟩ := he.out
  refine ⟨fun ds w => ?_⟩
  cases hi with
  | n =>
    cases hj with
    | n =>
      simp at h1 h2
      simp [execOp, hx ds, Instr.sliceAt, Instr.slice, run_underlying hT, Instr.sliceBounds, hE.sizeOf]
      try rfl
    | s h =>
      rename_i y i
      simp at h1 h2
      have e1 : i ≤ (c : Int) := h2
      simp [execOp, hx ds, h ds, Instr.sliceAt, Instr.slice, run_underlying hT, Instr.sliceBounds, Instr.sliceBound, asIntOf, hE.sizeOf, h1, e1]
      try rfl
  | s h =>
    rename_i y i
    cases hj with
    | n =>
      simp at h0 h1 h2
      simp [execOp, hx ds, h ds, Instr.sliceAt, Instr.slice, run_underlying hT, Instr.sliceBounds, Instr.sliceBound, asIntOf, hE.sizeOf, h0, h1]
      try rfl
    | s h' =>
      rename_i y' i'
      simp at h0 h1 h2
      have e1 : 0 ≤ i' := by omega
      have e2 : (i'.toNat : Int) = i' := by omega
      simp [execOp, hx ds, h ds, h' ds, Instr.sliceAt, Instr.slice, run_underlying hT, Instr.sliceBounds, Instr.sliceBound, asIntOf, hE.sizeOf, h0, h1, h2, e1, e2]
      try rfl
theorem s_slc {x : Operand} {lo up : Option Operand} {v v' : Value} {sz : Nat} {i j : Option Int} {e : TypeId} (hT : P.underlying T = some (.slice e)) (hE : TI P e ag zc sz m) (hx : Ev fr x v) (hi : Ob fr lo i) (hj : Ob fr up j) (he : Slc v sz i j v') (hp : Dt fr dst v' fr') (k : K fr' ds w) : OW P (Oper.mk dst (.slice T x lo up none) ty pos after g) fr ds w K Q := su (u_slc hT hE hx hi hj he) hp k
theorem Sl.slc {α : Type} [Mo α] {μ : M} {a : Option Addr} {c : Nat} {xs ys : List α} {i j : Option Int} (h : Sl μ a c xs) (g : cut xs (i.getD 0) (j.getD xs.length) = some ys) :
    ∃ a' c', Slc (.slice a xs.length c) (Mo.sz α) i j (.slice a' ys.length c') ∧ Sl μ a' c' ys := by
  obtain ⟨⟨h0, h1, h2⟩, rfl⟩ := cut_eq g
  have hle := h.le
  refine ⟨(if c = (i.getD 0).toNat then a else a.map (·.add ((i.getD 0).toNat * Mo.sz α))), c - (i.getD 0).toNat, ⟨a, xs.length, c, rfl, h0, h1, by omega, ?_⟩, ?_⟩
  · rw [show ((xs.take (j.getD ↑xs.length).toNat).drop (i.getD 0).toNat).length = (j.getD ↑xs.length).toNat - (i.getD 0).toNat by simp; omega]
  · refine ⟨by simp; omega, by have := h.cap; omega, ?_⟩
    rcases h.el with rfl | ⟨b, o, rfl, f, hf⟩
    · left; simp
    · by_cases hc : c = (i.getD 0).toNat
      · left
        rw [List.drop_eq_nil_iff]
        simp
        omega
      · right
        rw [if_neg hc]
        refine ⟨b, o + (i.getD 0).toNat * Mo.sz α, by simp [add_addr], fun k => f ((i.getD 0).toNat + k), fun k x hx => ?_⟩
        rw [List.getElem?_drop] at hx
        have hlt : (i.getD 0).toNat + k < (j.getD ↑xs.length).toNat := by
          have := (List.getElem?_eq_some_iff.1 hx).1
          simp at this; omega
        rw [List.getElem?_take_of_lt hlt] at hx
        have := hf _ x hx
        rw [Nat.add_mul, ← Nat.add_assoc] at this
        exact this
end
end Go.Xt

/- more steps -/
namespace Go.Xt
open Go.Wk Go.RowKit
section
variable {P : Program} {Q : Exit → Act → World → Prop} {K : List Value → List Deferred → World → Prop} {fr fr' : List Value} {ds : List Deferred} {w : World}
variable {dst : Option Tmp} {ty : TypeId} {pos : String} {after : Array Edge} {g : Option (Nat × Bool)}
variable {w0 : World} {rs rs' : List Res} {μ : M}
variable {T : TypeId} {d : TypeDesc} {ag : Bool} {zc : List Value} {n m : Nat}
theorem i64_wrap1 {n x : Int} (h : i64 n = some x) : IntKind.i64.wrap n = x := i64_wrap h
theorem u_cut2c {x lo up : Operand} {t : TypeId} {a b : List UInt8} {i j : Int} (ht : P.underlying t = some .string) (hx : Ev fr x (S a)) (hi : Ev fr lo (.int .i64 i)) (hj : Ev fr up (.int .i64 j)) (h : cut a i j = some b) : PU P (Oper.mk dst (.slice t x (some lo) (some up) none) ty pos after g) fr (S b) := by
  obtain ⟨⟨h0, h1, h2⟩, rfl⟩ := cut_eq h
  exact u_cuts ht hx hi hj ⟨h0, h1, h2⟩
theorem s_cut2c {x lo up : Operand} {t : TypeId} {a b : List UInt8} {i j : Int} (ht : P.underlying t = some .string) (hx : Ev fr x (S a)) (hi : Ev fr lo (.int .i64 i)) (hj : Ev fr up (.int .i64 j)) (h : cut a i j = some b) (hp : Dt fr dst (S b) fr') (k : K fr' ds w) : OW P (Oper.mk dst (.slice t x (some lo) (some up) none) ty pos after g) fr ds w K Q := su (u_cut2c ht hx hi hj h) hp k
theorem u_cutloc {x lo : Operand} {t : TypeId} {a b : List UInt8} {i : Int} (ht : P.underlying t = some .string) (hx : Ev fr x (S a)) (hi : Ev fr lo (.int .i64 i)) (h : cut a i a.length = some b) : PU P (Oper.mk dst (.slice t x (some lo) none none) ty pos after g) fr (S b) := by
  obtain ⟨⟨h0, h1, h2⟩, rfl⟩ := cut_eq h
  have := u_cutlo (dst := dst) (ty := ty) (pos := pos) (after := after) (g := g) ht hx hi ⟨h0, h1⟩
  simpa using this
theorem s_cutloc {x lo : Operand} {t : TypeId} {a b : List UInt8} {i : Int} (ht : P.underlying t = some .string) (hx : Ev fr x (S a)) (hi : Ev fr lo (.int .i64 i)) (h : cut a i a.length = some b) (hp : Dt fr dst (S b) fr') (k : K fr' ds w) : OW P (Oper.mk dst (.slice t x (some lo) none none) ty pos after g) fr ds w K Q := su (u_cutloc ht hx hi h) hp k
theorem u_cuthic {x up : Operand} {t : TypeId} {a b : List UInt8} {j : Int} (ht : P.underlying t = some .string) (hx : Ev fr x (S a)) (hj : Ev fr up (.int .i64 j)) (h : cut a 0 j = some b) : PU P (Oper.mk dst (.slice t x none (some up) none) ty pos after g) fr (S b) := by
  obtain ⟨⟨h0, h1, h2⟩, rfl⟩ := cut_eq h
  have := u_cuthi (dst := dst) (ty := ty) (pos := pos) (after := after) (g := g) ht hx hj ⟨h1, h2⟩
  simpa using this
theorem s_cuthic {x up : Operand} {t : TypeId} {a b : List UInt8} {j : Int} (ht : P.underlying t = some .string) (hx : Ev fr x (S a)) (hj : Ev fr up (.int .i64 j)) (h : cut a 0 j = some b) (hp : Dt fr dst (S b) fr') (k : K fr' ds w) : OW P (Oper.mk dst (.slice t x none (some up) none) ty pos after g) fr ds w K Q := su (u_cuthic ht hx hj h) hp k
theorem _root_.Go.Wk.Row.cellV {v : Value} {sz n : Nat} {xs : List Value} (h : Row w v T sz n xs) : cellV v = true := by
  rcases h.2 with ⟨rfl, _⟩ | ⟨g, o, cap, cur, rfl, _⟩ <;> rfl
theorem u_mkfn {f : Nat} {xs ys : List Operand} {vs us : List Value} (hs : Evs fr xs vs) (hu : Evs fr ys us) : PU P (Oper.mk dst (.makeFunc (.func f) ⟨xs⟩ ⟨ys⟩) ty pos after g) fr (.func (.func f) ⟨vs⟩ ⟨us⟩) := by
  refine ⟨fun ds w => ?_⟩
  have h1 := hs ds
  have h2 := hu ds
  simp [execOp, Instr.makeFunc, h1, h2]
theorem s_mkfn {f : Nat} {xs ys : List Operand} {vs us : List Value} (hs : Evs fr xs vs) (hu : Evs fr ys us) (hp : Dt fr dst (.func (.func f) ⟨vs⟩ ⟨us⟩) fr') (k : K fr' ds w) : OW P (Oper.mk dst (.makeFunc (.func f) ⟨xs⟩ ⟨ys⟩) ty pos after g) fr ds w K Q := su (u_mkfn hs hu) hp k
theorem Rw.app {α : Type} [Mo α] {cells news : List Value} {l xs l' : List α} (h : Rw μ cells l) (k : Rw μ news xs) (g : app l xs = some l') : Rw μ (cells ++ news) l' := by
  obtain ⟨rfl, -⟩ := app_eq g
  exact Rw.cat k h
theorem app_len {α : Type} {l xs l' : List α} (g : app l xs = some l') : l'.length = l.length + xs.length ∧ l.length + xs.length ≤ 4294967296 := by
  obtain ⟨rfl, h⟩ := app_eq g
  exact ⟨by simp, h⟩
theorem s_app1 {α : Type} [Mo α] {t : TypeId} {s x : Operand} {v : Value} {bytes k b mm c : Nat} {cells news : List Value} {l ys l' : List α} (ht : P.underlying t = some (.slice T)) (hE : TI P T ag zc (Mo.sz α) bytes) (hz : zc.length = Mo.sz α)
    (hs : Ev fr s v) (hx : Ev fr x (.slice (some ⟨b, 0, none⟩) mm c)) (hS : Sq μ w0 w rs) (hl : Lk rs k (.row v T (Mo.sz α) l.length cells)) (hnews : CellsAt w b 0 news) (hr : Rw μ news ys) (hm : ys.length = mm) (gg : app l ys = some l') (hb : bytes ≤ 4096)
    (h : ∀ v' w' rs', Pt rs k (.row v' T (Mo.sz α) l'.length (cells ++ news)) rs' → Sq μ w0 w' rs' → Put fr dst v' fun fr' => K fr' ds w') :
    OW P (Oper.mk dst (.call { callee := .builtin .append, args := #[s, x], argTypes := #[t, t] }) ty pos after g) fr ds w K Q := by
  obtain ⟨h1, h2⟩ := app_len gg
  subst hm
  refine s_append ht hE (by simp [hz, Mo.pos]) hs hx hS hl hnews hr.len hr.cv ⟨h2, hb⟩ fun v' w' rs' hp => h v' w' rs' (by rw [h1]; exact hp)
theorem _root_.Go.Wk.CellsAt.sb {b o : Nat} {cs : List Value} (h : CellsAt w b o cs) (i n : Nat) : CellsAt w b (o + i) ((cs.drop i).take n) := by
  intro j v hj
  have hjn : j < n := by
    have := (List.getElem?_eq_some_iff.1 hj).1
    simp at this; omega
  rw [List.getElem?_take_of_lt hjn, List.getElem?_drop] at hj
  have := h _ v hj
  rw [← Nat.add_assoc] at this
  exact this
theorem At.sb {b o : Nat} {cs : List Value} (h : At μ b o cs) (i n : Nat) : At μ b (o + i) ((cs.drop i).take n) := fun w hw => (h w hw).sb i n
theorem s_storeA {x y : Operand} {b k : Nat} {cs vs : List Value} (hT : TI P T ag zc n m) (hx : Ev fr x (.pointer (some ⟨b, 0, none⟩))) (hy : Ev fr y (.agg ⟨vs⟩)) (hn : vs.length = n) (hvc : vs.all cellV = true)
    {S S0 : Nat → Prop} {A : World → Prop} (hS : Sep S S0 w0 w rs A) {T' : TypeId} (hl : Lk rs k (.blk b T' cs)) (he : cs.length = n) (hp : Pt rs k (.blk b T' vs) rs')
    (hd : Dt fr dst undef fr') (h : ∀ w', Sep S S0 w0 w' rs' A → K fr' ds w') : OW P (Oper.mk dst (.store T x y) ty pos after g) fr ds w K Q := by
  have key : ∀ (vs cs pre : List Value), vs.length = cs.length → Spl (pre ++ cs) pre.length vs (pre ++ vs) := by
    intro vs
    induction vs with
    | nil => intro cs pre h; cases cs with
      | nil => exact .z
      | cons c cs => simp at h
    | cons v vs ih =>
      intro cs pre h
      cases cs with
      | nil => simp at h
      | cons c cs =>
        refine .s (cs1 := pre ++ v :: cs) (by unfold Pt; simp) (by simp) ?_
        have := ih cs (pre ++ [v]) (by simpa using h)
        simpa using this
  exact s_store hT hx hy rfl hn hvc hS hl (by simpa using key vs cs [] (by omega)) (by simp) hp hd h
theorem u_build {pl : Array (Nat × Nat)} {xs : List (Nat × Operand)} {out : List Value} (hT : TI P T ag zc n m) (hpl : PL P T pl) (hf : Fl fr pl zc xs out) : PU P (Oper.mk dst (.build T ⟨xs⟩) ty pos after g) fr (.agg ⟨out⟩) := by
  refine ⟨fun ds w => ?_⟩
  obtain ⟨z, hz, hc⟩ := hT.zero (w := w)
  have hr := hf.run (ds := ds)
  obtain ⟨fs, hund, hmm⟩ := hpl.out
  have hm := hmm w
  have hl : ((⟨xs⟩ : Array (Nat × Operand)).map fun (i, x) => (i, (F fr ds).eval x)).toList = xs.map fun p => (p.1, (F fr ds).eval p.2) := by simp
  unfold execOp
  simp only [Instr.build, Sem.run_bind, hz, Result.andThen_ok, run_underlying hund]
  rw [hm]
  simp only [Result.andThen_ok, hc, hl]
  rw [hr]
  simp
end
end Go.Xt

namespace Go.Wk
theorem k10 {α : Type} {a0 a1 a2 a3 a4 a5 a6 a7 a8 a9 v : α} {l : List α} {n : Nat} (h : Lk l n v) : Lk (a0 :: a1 :: a2 :: a3 :: a4 :: a5 :: a6 :: a7 :: a8 :: a9 :: l) (n + 10) v := h
theorem q10 {α : Type} {a0 a1 a2 a3 a4 a5 a6 a7 a8 a9 v : α} {l l' : List α} {n : Nat} (h : Pt l n v l') : Pt (a0 :: a1 :: a2 :: a3 :: a4 :: a5 :: a6 :: a7 :: a8 :: a9 :: l) (n + 10) v (a0 :: a1 :: a2 :: a3 :: a4 :: a5 :: a6 :: a7 :: a8 :: a9 :: l') := by unfold Pt at *; subst h; rfl
theorem k20 {α : Type} {a0 a1 a2 a3 a4 a5 a6 a7 a8 a9 a10 a11 a12 a13 a14 a15 a16 a17 a18 a19 v : α} {l : List α} {n : Nat} (h : Lk l n v) : Lk (a0 :: a1 :: a2 :: a3 :: a4 :: a5 :: a6 :: a7 :: a8 :: a9 :: a10 :: a11 :: a12 :: a13 :: a14 :: a15 :: a16 :: a17 :: a18 :: a19 :: l) (n + 20) v := h
theorem q20 {α : Type} {a0 a1 a2 a3 a4 a5 a6 a7 a8 a9 a10 a11 a12 a13 a14 a15 a16 a17 a18 a19 v : α} {l l' : List α} {n : Nat} (h : Pt l n v l') : Pt (a0 :: a1 :: a2 :: a3 :: a4 :: a5 :: a6 :: a7 :: a8 :: a9 :: a10 :: a11 :: a12 :: a13 :: a14 :: a15 :: a16 :: a17 :: a18 :: a19 :: l) (n + 20) v (a0 :: a1 :: a2 :: a3 :: a4 :: a5 :: a6 :: a7 :: a8 :: a9 :: a10 :: a11 :: a12 :: a13 :: a14 :: a15 :: a16 :: a17 :: a18 :: a19 :: l') := by unfold Pt at *; subst h; rfl
theorem k30 {α : Type} {a0 a1 a2 a3 a4 a5 a6 a7 a8 a9 a10 a11 a12 a13 a14 a15 a16 a17 a18 a19 a20 a21 a22 a23 a24 a25 a26 a27 a28 a29 v : α} {l : List α} {n : Nat} (h : Lk l n v) : Lk (a0 :: a1 :: a2 :: a3 :: a4 :: a5 :: a6 :: a7 :: a8 :: a9 :: a10 :: a11 :: a12 :: a13 :: a14 :: a15 :: a16 :: a17 :: a18 :: a19 :: a20 :: a21 :: a22 :: a23 :: a24 :: a25 :: a26 :: a27 :: a28 :: a29 :: l) (n + 30) v := h
theorem q30 {α : Type} {a0 a1 a2 a3 a4 a5 a6 a7 a8 a9 a10 a11 a12 a13 a14 a15 a16 a17 a18 a19 a20 a21 a22 a23 a24 a25 a26 a27 a28 a29 v : α} {l l' : List α} {n : Nat} (h : Pt l n v l') : Pt (a0 :: a1 :: a2 :: a3 :: a4 :: a5 :: a6 :: a7 :: a8 :: a9 :: a10 :: a11 :: a12 :: a13 :: a14 :: a15 :: a16 :: a17 :: a18 :: a19 :: a20 :: a21 :: a22 :: a23 :: a24 :: a25 :: a26 :: a27 :: a28 :: a29 :: l) (n + 30) v (a0 :: a1 :: a2 :: a3 :: a4 :: a5 :: a6 :: a7 :: a8 :: a9 :: a10 :: a11 :: a12 :: a13 :: a14 :: a15 :: a16 :: a17 :: a18 :: a19 :: a20 :: a21 :: a22 :: a23 :: a24 :: a25 :: a26 :: a27 :: a28 :: a29 :: l') := by unfold Pt at *; subst h; rfl
theorem k40 {α : Type} {a0 a1 a2 a3 a4 a5 a6 a7 a8 a9 a10 a11 a12 a13 a14 a15 a16 a17 a18 a19 a20 a21 a22 a23 a24 a25 a26 a27 a28 a29 a30 a31 a32 a33 a34 a35 a36 a37 a38 a39 v : α} {l : List α} {n : Nat} (h : Lk l n v) : Lk (a0 :: a1 :: a2 :: a3 :: a4 :: a5 :: a6 :: a7 :: a8 :: a9 :: a10 :: a11 :: a12 :: a13 :: a14 :: a15 :: a16 :: a17 :: a18 :: a19 :: a20 :: a21 :: a22 :: a23 :: a24 :: a25 :: a26 :: a27 :: a28 :: a29 :: a30 :: a31 :: a32 :: a33 :: a34 :: a35 :: a36 :: a37 :: a38 :: a39 :: l) (n + 40) v := h
theorem q40 {α : Type} {a0 a1 a2 a3 a4 a5 a6 a7 a8 a9 a10 a11 a12 a13 a14 a15 a16 a17 a18 a19 a20 a21 a22 a23 a24 a25 a26 a27 a28 a29 a30 a31 a32 a33 a34 a35 a36 a37 a38 a39 v : α} {l l' : List α} {n : Nat} (h : Pt l n v l') : Pt (a0 :: a1 :: a2 :: a3 :: a4 :: a5 :: a6 :: a7 :: a8 :: a9 :: a10 :: a11 :: a12 :: a13 :: a14 :: a15 :: a16 :: a17 :: a18 :: a19 :: a20 :: a21 :: a22 :: a23 :: a24 :: a25 :: a26 :: a27 :: a28 :: a29 :: a30 :: a31 :: a32 :: a33 :: a34 :: a35 :: a36 :: a37 :: a38 :: a39 :: l) (n + 40) v (a0 :: a1 :: a2 :: a3 :: a4 :: a5 :: a6 :: a7 :: a8 :: a9 :: a10 :: a11 :: a12 :: a13 :: a14 :: a15 :: a16 :: a17 :: a18 :: a19 :: a20 :: a21 :: a22 :: a23 :: a24 :: a25 :: a26 :: a27 :: a28 :: a29 :: a30 :: a31 :: a32 :: a33 :: a34 :: a35 :: a36 :: a37 :: a38 :: a39 :: l') := by unfold Pt at *; subst h; rfl
theorem k50 {α : Type} {a0 a1 a2 a3 a4 a5 a6 a7 a8 a9 a10 a11 a12 a13 a14 a15 a16 a17 a18 a19 a20 a21 a22 a23 a24 a25 a26 a27 a28 a29 a30 a31 a32 a33 a34 a35 a36 a37 a38 a39 a40 a41 a42 a43 a44 a45 a46 a47 a48 a49 v : α} {l : List α} {n : Nat} (h : Lk l n v) : Lk (a0 :: a1 :: a2 :: a3 :: a4 :: a5 :: a6 :: a7 :: a8 :: a9 :: a10 :: a11 :: a12 :: a13 :: a14 :: a15 :: a16 :: a17 :: a18 :: a19 :: a20 :: a21 :: a22 :: a23 :: a24 :: a25 :: a26 :: a27 :: a28 :: a29 :: a30 :: a31 :: a32 :: a33 :: a34 :: a35 :: a36 :: a37 :: a38 :: a39 :: a40 :: a41 :: a42 :: a43 :: a44 :: a45 :: a46 :: a47 :: a48 :: a49 :: l) (n + 50) v := h
theorem q50 {α : Type} {a0 a1 a2 a3 a4 a5 a6 a7 a8 a9 a10 a11 a12 a13 a14 a15 a16 a17 a18 a19 a20 a21 a22 a23 a24 a25 a26 a27 a28 a29 a30 a31 a32 a33 a34 a35 a36 a37 a38 a39 a40 a41 a42 a43 a44 a45 a46 a47 a48 a49 v : α} {l l' : List α} {n : Nat} (h : Pt l n v l') : Pt (a0 :: a1 :: a2 :: a3 :: a4 :: a5 :: a6 :: a7 :: a8 :: a9 :: a10 :: a11 :: a12 :: a13 :: a14 :: a15 :: a16 :: a17 :: a18 :: a19 :: a20 :: a21 :: a22 :: a23 :: a24 :: a25 :: a26 :: a27 :: a28 :: a29 :: a30 :: a31 :: a32 :: a33 :: a34 :: a35 :: a36 :: a37 :: a38 :: a39 :: a40 :: a41 :: a42 :: a43 :: a44 :: a45 :: a46 :: a47 :: a48 :: a49 :: l) (n + 50) v (a0 :: a1 :: a2 :: a3 :: a4 :: a5 :: a6 :: a7 :: a8 :: a9 :: a10 :: a11 :: a12 :: a13 :: a14 :: a15 :: a16 :: a17 :: a18 :: a19 :: a20 :: a21 :: a22 :: a23 :: a24 :: a25 :: a26 :: a27 :: a28 :: a29 :: a30 :: a31 :: a32 :: a33 :: a34 :: a35 :: a36 :: a37 :: a38 :: a39 :: a40 :: a41 :: a42 :: a43 :: a44 :: a45 :: a46 :: a47 :: a48 :: a49 :: l') := by unfold Pt at *; subst h; rfl
theorem k60 {α : Type} {a0 a1 a2 a3 a4 a5 a6 a7 a8 a9 a10 a11 a12 a13 a14 a15 a16 a17 a18 a19 a20 a21 a22 a23 a24 a25 a26 a27 a28 a29 a30 a31 a32 a33 a34 a35 a36 a37 a38 a39 a40 a41 a42 a43 a44 a45 a46 a47 a48 a49 a50 a51 a52 a53 a54 a55 a56 a57 a58 a59 v : α} {l : List α} {n : Nat} (h : Lk l n v) : Lk (a0 :: a1 :: a2 :: a3 :: a4 :: a5 :: a6 :: a7 :: a8 :: a9 :: a10 :: a11 :: a12 :: a13 :: a14 :: a15 :: a16 :: a17 :: a18 :: a19 :: a20 :: a21 :: a22 :: a23 :: a24 :: a25 :: a26 :: a27 :: a28 :: a29 :: a30 :: a31 :: a32 :: a33 :: a34 :: a35 :: a36 :: a37 :: a38 :: a39 :: a40 :: a41 :: a42 :: a43 :: a44 :: a45 :: a46 :: a47 :: a48 :: a49 :: a50 :: a51 :: a52 :: a53 :: a54 :: a55 :: a56 :: a57 :: a58 :: a59 :: l) (n + 60) v := h
theorem q60 {α : Type} {a0 a1 a2 a3 a4 a5 a6 a7 a8 a9 a10 a11 a12 a13 a14 a15 a16 a17 a18 a19 a20 a21 a22 a23 a24 a25 a26 a27 a28 a29 a30 a31 a32 a33 a34 a35 a36 a37 a38 a39 a40 a41 a42 a43 a44 a45 a46 a47 a48 a49 a50 a51 a52 a53 a54 a55 a56 a57 a58 a59 v : α} {l l' : List α} {n : Nat} (h : Pt l n v l') : Pt (a0 :: a1 :: a2 :: a3 :: a4 :: a5 :: a6 :: a7 :: a8 :: a9 :: a10 :: a11 :: a12 :: a13 :: a14 :: a15 :: a16 :: a17 :: a18 :: a19 :: a20 :: a21 :: a22 :: a23 :: a24 :: a25 :: a26 :: a27 :: a28 :: a29 :: a30 :: a31 :: a32 :: a33 :: a34 :: a35 :: a36 :: a37 :: a38 :: a39 :: a40 :: a41 :: a42 :: a43 :: a44 :: a45 :: a46 :: a47 :: a48 :: a49 :: a50 :: a51 :: a52 :: a53 :: a54 :: a55 :: a56 :: a57 :: a58 :: a59 :: l) (n + 60) v (a0 :: a1 :: a2 :: a3 :: a4 :: a5 :: a6 :: a7 :: a8 :: a9 :: a10 :: a11 :: a12 :: a13 :: a14 :: a15 :: a16 :: a17 :: a18 :: a19 :: a20 :: a21 :: a22 :: a23 :: a24 :: a25 :: a26 :: a27 :: a28 :: a29 :: a30 :: a31 :: a32 :: a33 :: a34 :: a35 :: a36 :: a37 :: a38 :: a39 :: a40 :: a41 :: a42 :: a43 :: a44 :: a45 :: a46 :: a47 :: a48 :: a49 :: a50 :: a51 :: a52 :: a53 :: a54 :: a55 :: a56 :: a57 :: a58 :: a59 :: l') := by unfold Pt at *; subst h; rfl
theorem k70 {α : Type} {a0 a1 a2 a3 a4 a5 a6 a7 a8 a9 a10 a11 a12 a13 a14 a15 a16 a17 a18 a19 a20 a21 a22 a23 a24 a25 a26 a27 a28 a29 a30 a31 a32 a33 a34 a35 a36 a37 a38 a39 a40 a41 a42 a43 a44 a45 a46 a47 a48 a49 a50 a51 a52 a53 a54 a55 a56 a57 a58 a59 a60 a61 a62 a63 a64 a65 a66 a67 a68 a69 v : α} {l : List α} {n : Nat} (h : Lk l n v) : Lk (a0 :: a1 :: a2 :: a3 :: a4 :: a5 :: a6 :: a7 :: a8 :: a9 :: a10 :: a11 :: a12 :: a13 :: a14 :: a15 :: a16 :: a17 :: a18 :: a19 :: a20 :: a21 :: a22 :: a23 :: a24 :: a25 :: a26 :: a27 :: a28 :: a29 :: a30 :: a31 :: a32 :: a33 :: a34 :: a35 :: a36 :: a37 :: a38 :: a39 :: a40 :: a41 :: a42 :: a43 :: a44 :: a45 :: a46 :: a47 :: a48 :: a49 :: a50 :: a51 :: a52 :: a53 :: a54 :: a55 :: a56 :: a57 :: a58 :: a59 :: a60 :: a61 :: a62 :: a63 :: a64 :: a65 :: a66 :: a67 :: a68 :: a69 :: l) (n + 70) v := h
theorem q70 {α : Type} {a0 a1 a2 a3 a4 a5 a6 a7 a8 a9 a10 a11 a12 a13 a14 a15 a16 a17 a18 a19 a20 a21 a22 a23 a24 a25 a26 a27 a28 a29 a30 a31 a32 a33 a34 a35 a36 a37 a38 a39 a40 a41 a42 a43 a44 a45 a46 a47 a48 a49 a50 a51 a52 a53 a54 a55 a56 a57 a58 a59 a60 a61 a62 a63 a64 a65 a66 a67 a68 a69 v : α} {l l' : List α} {n : Nat} (h : Pt l n v l') : Pt (a0 :: a1 :: a2 :: a3 :: a4 :: a5 :: a6 :: a7 :: a8 :: a9 :: a10 :: a11 :: a12 :: a13 :: a14 :: a15 :: a16 :: a17 :: a18 :: a19 :: a20 :: a21 :: a22 :: a23 :: a24 :: a25 :: a26 :: a27 :: a28 :: a29 :: a30 :: a31 :: a32 :: a33 :: a34 :: a35 :: a36 :: a37 :: a38 :: a39 :: a40 :: a41 :: a42 :: a43 :: a44 :: a45 :: a46 :: a47 :: a48 :: a49 :: a50 :: a51 :: a52 :: a53 :: a54 :: a55 :: a56 :: a57 :: a58 :: a59 :: a60 :: a61 :: a62 :: a63 :: a64 :: a65 :: a66 :: a67 :: a68 :: a69 :: l) (n + 70) v (a0 :: a1 :: a2 :: a3 :: a4 :: a5 :: a6 :: a7 :: a8 :: a9 :: a10 :: a11 :: a12 :: a13 :: a14 :: a15 :: a16 :: a17 :: a18 :: a19 :: a20 :: a21 :: a22 :: a23 :: a24 :: a25 :: a26 :: a27 :: a28 :: a29 :: a30 :: a31 :: a32 :: a33 :: a34 :: a35 :: a36 :: a37 :: a38 :: a39 :: a40 :: a41 :: a42 :: a43 :: a44 :: a45 :: a46 :: a47 :: a48 :: a49 :: a50 :: a51 :: a52 :: a53 :: a54 :: a55 :: a56 :: a57 :: a58 :: a59 :: a60 :: a61 :: a62 :: a63 :: a64 :: a65 :: a66 :: a67 :: a68 :: a69 :: l') := by unfold Pt at *; subst h; rfl
theorem k80 {α : Type} {a0 a1 a2 a3 a4 a5 a6 a7 a8 a9 a10 a11 a12 a13 a14 a15 a16 a17 a18 a19 a20 a21 a22 a23 a24 a25 a26 a27 a28 a29 a30 a31 a32 a33 a34 a35 a36 a37 a38 a39 a40 a41 a42 a43 a44 a45 a46 a47 a48 a49 a50 a51 a52 a53 a54 a55 a56 a57 a58 a59 a60 a61 a62 a63 a64 a65 a66 a67 a68 a69 a70 a71 a72 a73 a74 a75 a76 a77 a78 a79 v : α} {l : List α} {n : Nat} (h : Lk l n v) : Lk (a0 :: a1 :: a2 :: a3 :: a4 :: a5 :: a6 :: a7 :: a8 :: a9 :: a10 :: a11 :: a12 :: a13 :: a14 :: a15 :: a16 :: a17 :: a18 :: a19 :: a20 :: a21 :: a22 :: a23 :: a24 :: a25 :: a26 :: a27 :: a28 :: a29 :: a30 :: a31 :: a32 :: a33 :: a34 :: a35 :: a36 :: a37 :: a38 :: a39 :: a40 :: a41 :: a42 :: a43 :: a44 :: a45 :: a46 :: a47 :: a48 :: a49 :: a50 :: a51 :: a52 :: a53 :: a54 :: a55 :: a56 :: a57 :: a58 :: a59 :: a60 :: a61 :: a62 :: a63 :: a64 :: a65 :: a66 :: a67 :: a68 :: a69 :: a70 :: a71 :: a72 :: a73 :: a74 :: a75 :: a76 :: a77 :: a78 :: a79 :: l) (n + 80) v := h
theorem q80 {α : Type} {a0 a1 a2 a3 a4 a5 a6 a7 a8 a9 a10 a11 a12 a13 a14 a15 a16 a17 a18 a19 a20 a21 a22 a23 a24 a25 a26 a27 a28 a29 a30 a31 a32 a33 a34 a35 a36 a37 a38 a39 a40 a41 a42 a43 a44 a45 a46 a47 a48 a49 a50 a51 a52 a53 a54 a55 a56 a57 a58 a59 a60 a61 a62 a63 a64 a65 a66 a67 a68 a69 a70 a71 a72 a73 a74 a75 a76 a77 a78 a79 v : α} {l l' : List α} {n : Nat} (h : Pt l n v l') : Pt (a0 :: a1 :: a2 :: a3 :: a4 :: a5 :: a6 :: a7 :: a8 :: a9 :: a10 :: a11 :: a12 :: a13 :: a14 :: a15 :: a16 :: a17 :: a18 :: a19 :: a20 :: a21 :: a22 :: a23 :: a24 :: a25 :: a26 :: a27 :: a28 :: a29 :: a30 :: a31 :: a32 :: a33 :: a34 :: a35 :: a36 :: a37 :: a38 :: a39 :: a40 :: a41 :: a42 :: a43 :: a44 :: a45 :: a46 :: a47 :: a48 :: a49 :: a50 :: a51 :: a52 :: a53 :: a54 :: a55 :: a56 :: a57 :: a58 :: a59 :: a60 :: a61 :: a62 :: a63 :: a64 :: a65 :: a66 :: a67 :: a68 :: a69 :: a70 :: a71 :: a72 :: a73 :: a74 :: a75 :: a76 :: a77 :: a78 :: a79 :: l) (n + 80) v (a0 :: a1 :: a2 :: a3 :: a4 :: a5 :: a6 :: a7 :: a8 :: a9 :: a10 :: a11 :: a12 :: a13 :: a14 :: a15 :: a16 :: a17 :: a18 :: a19 :: a20 :: a21 :: a22 :: a23 :: a24 :: a25 :: a26 :: a27 :: a28 :: a29 :: a30 :: a31 :: a32 :: a33 :: a34 :: a35 :: a36 :: a37 :: a38 :: a39 :: a40 :: a41 :: a42 :: a43 :: a44 :: a45 :: a46 :: a47 :: a48 :: a49 :: a50 :: a51 :: a52 :: a53 :: a54 :: a55 :: a56 :: a57 :: a58 :: a59 :: a60 :: a61 :: a62 :: a63 :: a64 :: a65 :: a66 :: a67 :: a68 :: a69 :: a70 :: a71 :: a72 :: a73 :: a74 :: a75 :: a76 :: a77 :: a78 :: a79 :: l') := by unfold Pt at *; subst h; rfl
theorem k90 {α : Type} {a0 a1 a2 a3 a4 a5 a6 a7 a8 a9 a10 a11 a12 a13 a14 a15 a16 a17 a18 a19 a20 a21 a22 a23 a24 a25 a26 a27 a28 a29 a30 a31 a32 a33 a34 a35 a36 a37 a38 a39 a40 a41 a42 a43 a44 a45 a46 a47 a48 a49 a50 a51 a52 a53 a54 a55 a56 a57 a58 a59 a60 a61 a62 a63 a64 a65 a66 a67 a68 a69 a70 a71 a72 a73 a74 a75 a76 a77 a78 a79 a80 a81 a82 a83 a84 a85 a86 a87 a88 a89 v : α} {l : List α} {n : Nat} (h : Lk l n v) : Lk (a0 :: a1 :: a2 :: a3 :: a4 :: a5 :: a6 :: a7 :: a8 :: a9 :: a10 :: a11 :: a12 :: a13 :: a14 :: a15 :: a16 :: a17 :: a18 :: a19 :: a20 :: a21 :: a22 :: a23 :: a24 :: a25 :: a26 :: a27 :: a28 :: a29 :: a30 :: a31 :: a32 :: a33 :: a34 :: a35 :: a36 :: a37 :: a38 :: a39 :: a40 :: a41 :: a42 :: a43 :: a44 :: a45 :: a46 :: a47 :: a48 :: a49 :: a50 :: a51 :: a52 :: a53 :: a54 :: a55 :: a56 :: a57 :: a58 :: a59 :: a60 :: a61 :: a62 :: a63 :: a64 :: a65 :: a66 :: a67 :: a68 :: a69 :: a70 :: a71 :: a72 :: a73 :: a74 :: a75 :: a76 :: a77 :: a78 :: a79 :: a80 :: a81 :: a82 :: a83 :: a84 :: a85 :: a86 :: a87 :: a88 :: a89 :: l) (n + 90) v := h
theorem q90 {α : Type} {a0 a1 a2 a3 a4 a5 a6 a7 a8 a9 a10 a11 a12 a13 a14 a15 a16 a17 a18 a19 a20 a21 a22 a23 a24 a25 a26 a27 a28 a29 a30 a31 a32 a33 a34 a35 a36 a37 a38 a39 a40 a41 a42 a43 a44 a45 a46 a47 a48 a49 a50 a51 a52 a53 a54 a55 a56 a57 a58 a59 a60 a61 a62 a63 a64 a65 a66 a67 a68 a69 a70 a71 a72 a73 a74 a75 a76 a77 a78 a79 a80 a81 a82 a83 a84 a85 a86 a87 a88 a89 v : α} {l l' : List α} {n : Nat} (h : Pt l n v l') : Pt (a0 :: a1 :: a2 :: a3 :: a4 :: a5 :: a6 :: a7 :: a8 :: a9 :: a10 :: a11 :: a12 :: a13 :: a14 :: a15 :: a16 :: a17 :: a18 :: a19 :: a20 :: a21 :: a22 :: a23 :: a24 :: a25 :: a26 :: a27 :: a28 :: a29 :: a30 :: a31 :: a32 :: a33 :: a34 :: a35 :: a36 :: a37 :: a38 :: a39 :: a40 :: a41 :: a42 :: a43 :: a44 :: a45 :: a46 :: a47 :: a48 :: a49 :: a50 :: a51 :: a52 :: a53 :: a54 :: a55 :: a56 :: a57 :: a58 :: a59 :: a60 :: a61 :: a62 :: a63 :: a64 :: a65 :: a66 :: a67 :: a68 :: a69 :: a70 :: a71 :: a72 :: a73 :: a74 :: a75 :: a76 :: a77 :: a78 :: a79 :: a80 :: a81 :: a82 :: a83 :: a84 :: a85 :: a86 :: a87 :: a88 :: a89 :: l) (n + 90) v (a0 :: a1 :: a2 :: a3 :: a4 :: a5 :: a6 :: a7 :: a8 :: a9 :: a10 :: a11 :: a12 :: a13 :: a14 :: a15 :: a16 :: a17 :: a18 :: a19 :: a20 :: a21 :: a22 :: a23 :: a24 :: a25 :: a26 :: a27 :: a28 :: a29 :: a30 :: a31 :: a32 :: a33 :: a34 :: a35 :: a36 :: a37 :: a38 :: a39 :: a40 :: a41 :: a42 :: a43 :: a44 :: a45 :: a46 :: a47 :: a48 :: a49 :: a50 :: a51 :: a52 :: a53 :: a54 :: a55 :: a56 :: a57 :: a58 :: a59 :: a60 :: a61 :: a62 :: a63 :: a64 :: a65 :: a66 :: a67 :: a68 :: a69 :: a70 :: a71 :: a72 :: a73 :: a74 :: a75 :: a76 :: a77 :: a78 :: a79 :: a80 :: a81 :: a82 :: a83 :: a84 :: a85 :: a86 :: a87 :: a88 :: a89 :: l') := by unfold Pt at *; subst h; rfl
theorem k100 {α : Type} {a0 a1 a2 a3 a4 a5 a6 a7 a8 a9 a10 a11 a12 a13 a14 a15 a16 a17 a18 a19 a20 a21 a22 a23 a24 a25 a26 a27 a28 a29 a30 a31 a32 a33 a34 a35 a36 a37 a38 a39 a40 a41 a42 a43 a44 a45 a46 a47 a48 a49 a50 a51 a52 a53 a54 a55 a56 a57 a58 a59 a60 a61 a62 a63 a64 a65 a66 a67 a68 a69 a70 a71 a72 a73 a74 a75 a76 a77 a78 a79 a80 a81 a82 a83 a84 a85 a86 a87 a88 a89 a90 a91 a92 a93 a94 a95 a96 a97 a98 a99 v : α} {l : List α} {n : Nat} (h : Lk l n v) : Lk (a0 :: a1 :: a2 :: a3 :: a4 :: a5 :: a6 :: a7 :: a8 :: a9 :: a10 :: a11 :: a12 :: a13 :: a14 :: a15 :: a16 :: a17 :: a18 :: a19 :: a20 :: a21 :: a22 :: a23 :: a24 :: a25 :: a26 :: a27 :: a28 :: a29 :: a30 :: a31 :: a32 :: a33 :: a34 :: a35 :: a36 :: a37 :: a38 :: a39 :: a40 :: a41 :: a42 :: a43 :: a44 :: a45 :: a46 :: a47 :: a48 :: a49 :: a50 :: a51 :: a52 :: a53 :: a54 :: a55 :: a56 :: a57 :: a58 :: a59 :: a60 :: a61 :: a62 :: a63 :: a64 :: a65 :: a66 :: a67 :: a68 :: a69 :: a70 :: a71 :: a72 :: a73 :: a74 :: a75 :: a76 :: a77 :: a78 :: a79 :: a80 :: a81 :: a82 :: a83 :: a84 :: a85 :: a86 :: a87 :: a88 :: a89 :: a90 :: a91 :: a92 :: a93 :: a94 :: a95 :: a96 :: a97 :: a98 :: a99 :: l) (n + 100) v := h
theorem q100 {α : Type} {a0 a1 a2 a3 a4 a5 a6 a7 a8 a9 a10 a11 a12 a13 a14 a15 a16 a17 a18 a19 a20 a21 a22 a23 a24 a25 a26 a27 a28 a29 a30 a31 a32 a33 a34 a35 a36 a37 a38 a39 a40 a41 a42 a43 a44 a45 a46 a47 a48 a49 a50 a51 a52 a53 a54 a55 a56 a57 a58 a59 a60 a61 a62 a63 a64 a65 a66 a67 a68 a69 a70 a71 a72 a73 a74 a75 a76 a77 a78 a79 a80 a81 a82 a83 a84 a85 a86 a87 a88 a89 a90 a91 a92 a93 a94 a95 a96 a97 a98 a99 v : α} {l l' : List α} {n : Nat} (h : Pt l n v l') : Pt (a0 :: a1 :: a2 :: a3 :: a4 :: a5 :: a6 :: a7 :: a8 :: a9 :: a10 :: a11 :: a12 :: a13 :: a14 :: a15 :: a16 :: a17 :: a18 :: a19 :: a20 :: a21 :: a22 :: a23 :: a24 :: a25 :: a26 :: a27 :: a28 :: a29 :: a30 :: a31 :: a32 :: a33 :: a34 :: a35 :: a36 :: a37 :: a38 :: a39 :: a40 :: a41 :: a42 :: a43 :: a44 :: a45 :: a46 :: a47 :: a48 :: a49 :: a50 :: a51 :: a52 :: a53 :: a54 :: a55 :: a56 :: a57 :: a58 :: a59 :: a60 :: a61 :: a62 :: a63 :: a64 :: a65 :: a66 :: a67 :: a68 :: a69 :: a70 :: a71 :: a72 :: a73 :: a74 :: a75 :: a76 :: a77 :: a78 :: a79 :: a80 :: a81 :: a82 :: a83 :: a84 :: a85 :: a86 :: a87 :: a88 :: a89 :: a90 :: a91 :: a92 :: a93 :: a94 :: a95 :: a96 :: a97 :: a98 :: a99 :: l) (n + 100) v (a0 :: a1 :: a2 :: a3 :: a4 :: a5 :: a6 :: a7 :: a8 :: a9 :: a10 :: a11 :: a12 :: a13 :: a14 :: a15 :: a16 :: a17 :: a18 :: a19 :: a20 :: a21 :: a22 :: a23 :: a24 :: a25 :: a26 :: a27 :: a28 :: a29 :: a30 :: a31 :: a32 :: a33 :: a34 :: a35 :: a36 :: a37 :: a38 :: a39 :: a40 :: a41 :: a42 :: a43 :: a44 :: a45 :: a46 :: a47 :: a48 :: a49 :: a50 :: a51 :: a52 :: a53 :: a54 :: a55 :: a56 :: a57 :: a58 :: a59 :: a60 :: a61 :: a62 :: a63 :: a64 :: a65 :: a66 :: a67 :: a68 :: a69 :: a70 :: a71 :: a72 :: a73 :: a74 :: a75 :: a76 :: a77 :: a78 :: a79 :: a80 :: a81 :: a82 :: a83 :: a84 :: a85 :: a86 :: a87 :: a88 :: a89 :: a90 :: a91 :: a92 :: a93 :: a94 :: a95 :: a96 :: a97 :: a98 :: a99 :: l') := by unfold Pt at *; subst h; rfl
end Go.Wk

namespace Go.Wk
open Go.RowKit

/- maps -/
section
variable {P : Program} {Q : Exit → Act → World → Prop} {K : List Value → List Deferred → World → Prop} {fr fr' : List Value} {ds : List Deferred} {w : World}
variable {dst : Option Tmp} {ty : TypeId} {pos : String} {after : Array Edge} {g : Option (Nat × Bool)}
variable {S S0 : Nat → Prop} {w0 : World} {rs rs' : List Res} {A : World → Prop}
variable {T : TypeId}
/-- Values that are keys: strings, ints. -/
inductive KeyT : TypeDesc → Value → Prop where
  | str (l : List UInt8) : KeyT .string (Wk.S l)
  | int (k : IntKind) (n : Int) : KeyT (.int k) (.int k n)
/-- Are two keys one? -/
def kEq : Value → Value → Bool
  | .string a, .string b => decide (a.data.toList = b.data.toList)
  | .int _ a, .int _ b => decide (a = b)
  | _, _ => false
/-- The entry of a key: its place. -/
def entAt (es : List MapEntry) (k : Value) : Option (Nat × Value) := (es.zipIdx.find? fun e => kEq k e.1.key).map fun e => (e.2, e.1.val)
theorem findNow_eq {d : TypeDesc} {k : Value} (hk : KeyT d k) : ∀ (es : List MapEntry) (i : Nat), (∀ e ∈ es, KeyT d e.key) → Instr.findNow d k es i = some (((es.zipIdx i).find? fun e => kEq k e.1.key).map fun e => (e.2, e.1.val)) := by
  intro es
  induction es with
  | nil => intro i _; simp [Instr.findNow]
  | cons e es ih =>
    intro i h
    have he := h e (by simp)
    have ih' := ih (i + 1) fun x hx => h x (by simp [hx])
    simp only [Instr.findNow, List.zipIdx_cons, List.find?_cons]
    have hs : Instr.sameNow d k e.key = some (kEq k e.key) := by
      generalize e.key = k' at he
      cases hk with
      | str l =>
        cases he with
        | str l' =>
          simp only [Instr.sameNow, Wk.S, kEq]
          congr 1
          rw [Bool.eq_iff_iff, bytes_eq]
          simp
      | int kk n =>
        cases he with
        | int _ n' =>
          simp only [Instr.sameNow, if_true, kEq]
          congr 1
    rw [hs]
    cases hh : kEq k e.key with
    | true => simp
    | false => exact ih'
theorem run_findKey {kt : TypeId} {d : TypeDesc} {k : Value} {es : List MapEntry} (ht : P.underlying kt = some d) (hk : KeyT d k) (he : ∀ e ∈ es, KeyT d e.key) : (Instr.findKey kt k es).run P w = .ok (entAt es k) w := by
  unfold Instr.findKey entAt
  simp only [Sem.run_bind, run_underlying ht, Result.andThen_ok, findNow_eq hk es 0 he]
  rfl
theorem run_checkKey {kt : TypeId} {d : TypeDesc} {k : Value} {b : Bool} (ht : P.underlying kt = some d) (hk : KeyT d k) : (Instr.checkKey b 10000 kt k).run P w = .ok () w := by
  show (Instr.checkKey b (9999 + 1) kt k).run P w = _
  unfold Instr.checkKey
  simp only [Sem.run_bind, run_underlying ht, Result.andThen_ok]
  cases hk <;> rfl
theorem s_mkmap (hS : Sep S S0 w0 w rs A) (h : ∀ b w', w.heap.size ≤ b → Sep S S0 w0 w' (.map b [] 0 :: rs) A → Put fr dst (.map (some b)) fun fr' => K fr' ds w') : OW P (Oper.mk dst (.makeMap T none) ty pos after g) fr ds w K Q := by
  obtain ⟨fr', hd⟩ := dt_ex fr dst (.map (some w.heap.size))
  refine op_v (v := .map (some w.heap.size)) (w' := w.alloc (.map #[] 0)) ?_ hd (h _ _ (Nat.le_refl _) (hS.alloc rfl (heap_alloc_new w _)) fr' hd)
  simp [execOp, Instr.makeMap]
/-- What a map holds at a key; nothing: the zero value. -/
def getAt (es : List MapEntry) (k z : Value) : Value := (entAt es k).elim z (·.2)
def hasAt (es : List MapEntry) (k : Value) : Bool := (entAt es k).isSome
theorem s_look {x y : Operand} {kt et : TypeId} {d : TypeDesc} {kv z : Value} {b c k : Nat} {es : List MapEntry} (hT : P.underlying T = some (.map kt et)) (hk : P.underlying kt = some d) (hx : Ev fr x (.map (some b))) (hy : Ev fr y kv) (hkv : KeyT d kv)
    (hz : ∀ w, (zeroValue et).run P w = .ok z w) (hS : Sep S S0 w0 w rs A) (hl : Lk rs k (.map b es c)) (he : ∀ e ∈ es, KeyT d e.key)
    (hp : Dt fr dst (getAt es kv z) fr') (h : K fr' ds w) : OW P (Oper.mk dst (.lookup T x y false) ty pos after g) fr ds w K Q := by
  have hb : w.heap[b]? = some (.map ⟨es⟩ c) := hS.get hl
  refine op_v (w' := w) ?_ hp h
  have h1 := run_checkKey (w := w) (b := es.isEmpty) hk hkv
  have h2 := run_findKey (w := w) hk hkv he
  cases hf : entAt es kv with
  | none => simp [execOp, hx ds, hy ds, Instr.lookup, run_underlying hT, getObj, Sem.run, hb, Result.andThen, h1, h2, hf, hz w, getAt]
  | some e => simp [execOp, hx ds, hy ds, Instr.lookup, run_underlying hT, getObj, Sem.run, hb, Result.andThen, h1, h2, hf, getAt]
theorem s_look2 {x y : Operand} {kt et : TypeId} {d : TypeDesc} {kv z : Value} {b c k : Nat} {es : List MapEntry} (hT : P.underlying T = some (.map kt et)) (hk : P.underlying kt = some d) (hx : Ev fr x (.map (some b))) (hy : Ev fr y kv) (hkv : KeyT d kv)
    (hz : ∀ w, (zeroValue et).run P w = .ok z w) (hS : Sep S S0 w0 w rs A) (hl : Lk rs k (.map b es c)) (he : ∀ e ∈ es, KeyT d e.key)
    (hp : Dt fr dst (.tuple #[getAt es kv z, .bool (hasAt es kv)]) fr') (h : K fr' ds w) : OW P (Oper.mk dst (.lookup T x y true) ty pos after g) fr ds w K Q := by
  have hb : w.heap[b]? = some (.map ⟨es⟩ c) := hS.get hl
  refine op_v (w' := w) ?_ hp h
  have h1 := run_checkKey (w := w) (b := es.isEmpty) hk hkv
  have h2 := run_findKey (w := w) hk hkv he
  cases hf : entAt es kv with
  | none => simp [execOp, hx ds, hy ds, Instr.lookup, run_underlying hT, getObj, Sem.run, hb, Result.andThen, h1, h2, hf, hz w, getAt, hasAt]
  | some e => simp [execOp, hx ds, hy ds, Instr.lookup, run_underlying hT, getObj, Sem.run, hb, Result.andThen, h1, h2, hf, getAt, hasAt]
/-- The entries behind an assignment. -/
def putAt (es : List MapEntry) (c : Nat) (k v : Value) : List MapEntry := match entAt es k with
  | some (i, _) => es.modify i fun e => { e with key := k, val := v }
  | none => es ++ [{ key := k, val := v, born := c }]
def putC (es : List MapEntry) (c : Nat) (k : Value) : Nat := match entAt es k with
  | some _ => c
  | none => c + 1
theorem entAt_some {es : List MapEntry} {k v : Value} {i : Nat} (h : entAt es k = some (i, v)) : ∃ e, es[i]? = some e ∧ kEq k e.key = true ∧ e.val = v := by
  unfold entAt at h
  cases hf : es.zipIdx.find? fun e => kEq k e.1.key with
  | none => rw [hf] at h; cases h
  | some x =>
    rw [hf] at h
    simp only [Option.map_some, Option.some.injEq, Prod.mk.injEq] at h
    obtain ⟨rfl, rfl⟩ := h
    have h1 := List.find?_some (p := fun e : MapEntry × Nat => kEq k e.1.key) hf
    have h2 := List.mem_of_find?_eq_some hf
    exact ⟨x.1, by have := List.mem_zipIdx_iff_getElem?.1 h2; simpa using this, h1, rfl⟩
theorem same_bits {d : TypeDesc} {k k' : Value} (hk : KeyT d k) (hk' : KeyT d k') (h : kEq k k' = true) : Instr.sameBits 10000 k' k = true := by
  cases hk with
  | str l =>
    cases hk' with
    | str l' =>
      simp [kEq, Wk.S] at h
      subst h
      simp only [Instr.sameBits, Wk.S]
      exact (bytes_eq _ _).2 rfl
  | int kk n =>
    cases hk' with
    | int _ n' =>
      simp [kEq] at h
      subst h
      simp [Instr.sameBits]
theorem s_mput {x y z : Operand} {kt et : TypeId} {d : TypeDesc} {kv v : Value} {b c k : Nat} {es : List MapEntry} (hT : P.underlying T = some (.map kt et)) (hk : P.underlying kt = some d) (hx : Ev fr x (.map (some b))) (hy : Ev fr y kv) (hkv : KeyT d kv) (hz : Ev fr z v)
    (hS : Sep S S0 w0 w rs A) (hl : Lk rs k (.map b es c)) (he : ∀ e ∈ es, KeyT d e.key)
    (hd : Dt fr dst undef fr') (h : ∀ w' rs', Pt rs k (.map b (putAt es c kv v) (putC es c kv)) rs' → Sep S S0 w0 w' rs' A → K fr' ds w') : OW P (Oper.mk dst (.mapUpdate T x y z) ty pos after g) fr ds w K Q := by
  have hb : w.heap[b]? = some (.map ⟨es⟩ c) := hS.get hl
  have hlt : b < w.heap.size := (Array.getElem?_eq_some_iff.1 hb).1
  let w' : World := { w with heap := w.heap.setIfInBounds b (.map ⟨putAt es c kv v⟩ (putC es c kv)) }
  have hkp : Keeps (fun k => k ≠ b) w w' := ⟨rfl, rfl, rfl, by simp [w'], fun j _ hj => by simp [w', Array.getElem?_setIfInBounds, Ne.symm hj]⟩
  have hS' := hS.put (b := b) (r' := .map b (putAt es c kv v) (putC es c kv)) (w' := w') hl rfl rfl rfl (by show w'.heap[b]? = _; simp [w', hlt]) hkp
  have h1 := run_checkKey (P := P) (w := w) (b := false) hk hkv
  have h2 := run_findKey (P := P) (w := w) hk hkv he
  refine op_u (w' := w') ?_ hd (h w' _ rfl hS')
  cases hf : entAt es kv with
  | none => simp [execOp, hx ds, hy ds, hz ds, Instr.mapUpdate, run_underlying hT, getObj, setObj, Sem.run, hb, Result.andThen, h1, h2, hf, w', putAt, putC]
  | some e =>
    obtain ⟨i, u⟩ := e
    obtain ⟨e, hei, hke, -⟩ := entAt_some hf
    have hsb := same_bits hkv (he e (List.mem_of_getElem? hei)) hke
    simp [execOp, hx ds, hy ds, hz ds, Instr.mapUpdate, run_underlying hT, getObj, setObj, Sem.run, hb, Result.andThen, h1, h2, hf, hei, Instr.keyThatStays, hsb, w', putAt, putC]
theorem s_rangem {x : Operand} {kt et : TypeId} {m c k : Nat} {es : List MapEntry} (hT : P.underlying T = some (.map kt et)) (hx : Ev fr x (.map (some m))) (hS : Sep S S0 w0 w rs A) (hl : Lk rs k (.map m es c))
    (h : ∀ b w', w.heap.size ≤ b → Sep S S0 w0 w' (.mit b m c [] c :: rs) A → Put fr dst (.pointer (some ⟨b, 0, none⟩)) fun fr' => K fr' ds w') : OW P (Oper.mk dst (.range T x) ty pos after g) fr ds w K Q := by
  have hb : w.heap[m]? = some (.map ⟨es⟩ c) := hS.get hl
  obtain ⟨fr', hd⟩ := dt_ex fr dst (.pointer (some ⟨w.heap.size, 0, none⟩))
  refine op_v (v := .pointer (some ⟨w.heap.size, 0, none⟩)) (w' := w.alloc (.mapIter (some m) c #[] c)) ?_ hd (h _ _ (Nat.le_refl _) (hS.alloc rfl (heap_alloc_new w _)) fr' hd)
  simp [execOp, hx ds, Instr.range, run_underlying hT, getObj, Sem.run, hb, Result.andThen]
end

end Go.Wk

/- maps -/
namespace Go.Xt
open Go.Wk Go.RowKit
section
variable {P : Program} {Q : Exit → Act → World → Prop} {K : List Value → List Deferred → World → Prop} {fr fr' : List Value} {ds : List Deferred} {w : World}
variable {dst : Option Tmp} {ty : TypeId} {pos : String} {after : Array Edge} {g : Option (Nat × Bool)}
variable {w0 : World} {rs rs' : List Res} {μ μ' : M}
variable {T : TypeId} {d : TypeDesc} {ag : Bool} {zc : List Value} {n m : Nat}
theorem s_lookH {x y : Operand} {kt et : TypeId} {d : TypeDesc} {kv z : Value} {b c : Nat} {es : List MapEntry} (hT : P.underlying T = some (.map kt et)) (hk : P.underlying kt = some d) (hx : Ev fr x (.map (some b))) (hy : Ev fr y kv) (hkv : KeyT d kv)
    (hz : ∀ w, (zeroValue et).run P w = .ok z w) (hb : w.heap[b]? = some (.map ⟨es⟩ c)) (he : ∀ e ∈ es, KeyT d e.key)
    (hp : Dt fr dst (getAt es kv z) fr') (h : K fr' ds w) : OW P (Oper.mk dst (.lookup T x y false) ty pos after g) fr ds w K Q := by
  refine op_v (w' := w) ?_ hp h
  have h1 := run_checkKey (w := w) (b := es.isEmpty) hk hkv
  have h2 := run_findKey (w := w) hk hkv he
  cases hf : entAt es kv with
  | none => simp [execOp, hx ds, hy ds, Instr.lookup, run_underlying hT, getObj, Sem.run, hb, Result.andThen, h1, h2, hf, hz w, getAt]
  | some e => simp [execOp, hx ds, hy ds, Instr.lookup, run_underlying hT, getObj, Sem.run, hb, Result.andThen, h1, h2, hf, getAt]
theorem s_look2H {x y : Operand} {kt et : TypeId} {d : TypeDesc} {kv z : Value} {b c : Nat} {es : List MapEntry} (hT : P.underlying T = some (.map kt et)) (hk : P.underlying kt = some d) (hx : Ev fr x (.map (some b))) (hy : Ev fr y kv) (hkv : KeyT d kv)
    (hz : ∀ w, (zeroValue et).run P w = .ok z w) (hb : w.heap[b]? = some (.map ⟨es⟩ c)) (he : ∀ e ∈ es, KeyT d e.key)
    (hp : Dt fr dst (.tuple #[getAt es kv z, .bool (hasAt es kv)]) fr') (h : K fr' ds w) : OW P (Oper.mk dst (.lookup T x y true) ty pos after g) fr ds w K Q := by
  refine op_v (w' := w) ?_ hp h
  have h1 := run_checkKey (w := w) (b := es.isEmpty) hk hkv
  have h2 := run_findKey (w := w) hk hkv he
  cases hf : entAt es kv with
  | none => simp [execOp, hx ds, hy ds, Instr.lookup, run_underlying hT, getObj, Sem.run, hb, Result.andThen, h1, h2, hf, hz w, getAt, hasAt]
  | some e => simp [execOp, hx ds, hy ds, Instr.lookup, run_underlying hT, getObj, Sem.run, hb, Result.andThen, h1, h2, hf, getAt, hasAt]
/-- Keys of maps. -/
class Mk (κ : Type) [DecidableEq κ] where
  key : κ → Value
  kd : TypeDesc
  kt : ∀ k, KeyT kd (key k)
  eq : ∀ a b, kEq (key a) (key b) = decide (a = b)
instance : Mk (List UInt8) where
  key := S
  kd := .string
  kt := .str
  eq a b := by simp [kEq, S]
instance : Mk Int where
  key n := .int .i64 n
  kd := .int .i64
  kt := .int .i64
  eq a b := by simp [kEq]
/-- Values of maps, and their zero. -/
class MV (β : Type) where
  rv : M → Value → β → Prop
  up : ∀ {μ μ' : M} {v : Value} {x : β}, Le μ μ' → rv μ v x → rv μ' v x
instance : MV Int where
  rv _ v x := v = .int .i64 x
  up _ h := h
instance : MV Bool where
  rv _ v x := v = .bool x
  up _ h := h
instance : MV (List UInt8) where
  rv _ v x := v = S x
  up _ h := h
/-- A struct's value as data. -/
def Av {α : Type} [Mo α] (μ : M) (v : Value) (x : α) : Prop := ∃ cs, v = .agg ⟨cs⟩ ∧ Mo.cs μ cs x
theorem Av.up {α : Type} [Mo α] {v : Value} {x : α} (l : Le μ μ') (h : Av μ v x) : Av μ' v x := by
  obtain ⟨cs, h1, h2⟩ := h
  exact ⟨cs, h1, Mo.up l h2⟩
/-- A pointer to data. -/
def Pv {α : Type} [Mo α] (μ : M) (v : Value) (x : α) : Prop := ∃ b o cs, v = .pointer (some ⟨b, o, none⟩) ∧ At μ b o cs ∧ Mo.cs μ cs x
theorem Pv.up {α : Type} [Mo α] {v : Value} {x : α} (l : Le μ μ') (h : Pv μ v x) : Pv μ' v x := by
  obtain ⟨b, o, cs, h1, h2, h3⟩ := h
  exact ⟨b, o, cs, h1, h2.up l, Mo.up l h3⟩
/-- A pointer to data, or none. -/
def Np {α : Type} [Mo α] (μ : M) (v : Value) : Option α → Prop
  | none => v = .pointer none
  | some x => Pv μ v x
theorem Np.up {α : Type} [Mo α] {v : Value} {x : Option α} (h : Np μ v x) (l : Le μ μ') : Np μ' v x := by
  cases x with
  | none => exact h
  | some x => exact Pv.up l h
theorem Np.cellV {α : Type} [Mo α] {v : Value} {x : Option α} (h : Np μ v x) : cellV v = true := by
  cases x with
  | none => rw [show v = .pointer none from h]; rfl
  | some x => obtain ⟨b, o, cs, rfl, -⟩ := h; rfl
theorem Np.of {α : Type} [Mo α] {b o : Nat} {cs : List Value} {x : α} (h : At μ b o cs) (k : Mo.cs μ cs x) : Np μ (.pointer (some ⟨b, o, none⟩)) (some x) := ⟨b, o, cs, rfl, h, k⟩
theorem Np.get {α : Type} [Mo α] {v : Value} {o : Option α} {x : α} (h : Np μ v o) (g : o = some x) : ∃ b o cs, v = .pointer (some ⟨b, o, none⟩) ∧ At μ b o cs ∧ Mo.cs μ cs x := by
  subst g; exact h
instance {α : Type} [Mo α] : Mo (Option α) where
  sz := 1
  pos := by decide
  cs μ l x := ∃ v, l = [v] ∧ Np μ v x
  ln h := by obtain ⟨v, rfl, -⟩ := h; rfl
  up l h := by obtain ⟨v, h1, h2⟩ := h; exact ⟨v, h1, h2.up l⟩
  cv h := by obtain ⟨v, rfl, h⟩ := h; simp [h.cellV]
def mget {κ β : Type} [DecidableEq κ] : List (κ × β) → κ → Option β
  | [], _ => none
  | (a, b) :: m, k => if a = k then some b else mget m k
def mput {κ β : Type} [DecidableEq κ] : List (κ × β) → κ → β → List (κ × β)
  | [], k, x => [(k, x)]
  | (a, b) :: m, k, x => if a = k then (k, x) :: m else (a, b) :: mput m k x
/-- Entries as a list of pairs. -/
def Es {κ β : Type} [DecidableEq κ] [Mk κ] [MV β] (μ : M) : List MapEntry → List (κ × β) → Prop
  | [], m => m = []
  | e :: es, m => ∃ k x t, m = (k, x) :: t ∧ e.key = Mk.key k ∧ MV.rv μ e.val x ∧ Es μ es t
structure Mq {κ β : Type} [DecidableEq κ] [Mk κ] [MV β] (μ : M) (es : List MapEntry) (c : Nat) (m : List (κ × β)) : Prop where
  kv : Es μ es m
  lt : ∀ e ∈ es, e.born < c
  inc : es.Pairwise fun a b => a.born < b.born
variable {κ β : Type} [DecidableEq κ] [Mk κ] [MV β]
theorem Es.up (l : Le μ μ') : ∀ {es : List MapEntry} {m : List (κ × β)}, Es μ es m → Es μ' es m
  | [], m, h => by rw [Es] at h ⊢; exact h
  | e :: es, m, h => by
    rw [Es] at h ⊢
    obtain ⟨k, x, t, h1, h2, h3, h4⟩ := h
    exact ⟨k, x, t, h1, h2, MV.up l h3, Es.up l h4⟩
theorem Mq.up {es : List MapEntry} {c : Nat} {m : List (κ × β)} (h : Mq μ es c m) (l : Le μ μ') : Mq μ' es c m := ⟨h.kv.up l, h.lt, h.inc⟩
theorem Es.keys : ∀ {es : List MapEntry} {m : List (κ × β)}, Es μ es m → ∀ e ∈ es, KeyT (Mk.kd (κ := κ)) e.key
  | [], m, _, e, he => by cases he
  | e :: es, m, h, e', he => by
    rw [Es] at h
    obtain ⟨k, x, t, h1, h2, h3, h4⟩ := h
    rcases List.mem_cons.1 he with rfl | he
    · rw [h2]; exact Mk.kt k
    · exact Es.keys h4 e' he
theorem Es.len : ∀ {es : List MapEntry} {m : List (κ × β)}, Es μ es m → es.length = m.length
  | [], m, h => by rw [Es] at h; simp [h]
  | e :: es, m, h => by
    rw [Es] at h
    obtain ⟨k, x, t, rfl, h2, h3, h4⟩ := h
    simp [Es.len h4]
/-- The place of a key, entry by entry. -/
def fnd (kv : Value) : List MapEntry → Option (Nat × Value)
  | [] => none
  | e :: es => if kEq kv e.key then some (0, e.val) else (fnd kv es).map fun p => (p.1 + 1, p.2)
theorem fnd_zip (kv : Value) : ∀ (es : List MapEntry) (i : Nat), (((es.zipIdx i).find? fun e => kEq kv e.1.key).map fun e => (e.2, e.1.val)) = (fnd kv es).map fun p => (p.1 + i, p.2)
  | [], i => rfl
  | e :: es, i => by
    rw [List.zipIdx_cons, List.find?_cons, fnd]
    cases h : kEq kv e.key with
    | true => simp
    | false =>
      simp only [Bool.false_eq_true, if_false]
      rw [fnd_zip kv es (i + 1), Option.map_map]
      congr 1
      funext p
      simp; omega
theorem entAt_fnd (es : List MapEntry) (kv : Value) : entAt es kv = fnd kv es := by
  unfold entAt
  rw [fnd_zip]
  cases fnd kv es <;> simp
theorem Es.look : ∀ {es : List MapEntry} {m : List (κ × β)}, Es μ es m → ∀ k : κ, (match fnd (Mk.key k) es with | none => mget m k = none | some p => ∃ x, mget m k = some x ∧ MV.rv μ p.2 x)
  | [], m, h, k => by rw [Es] at h; subst h; rfl
  | e :: es, m, h, k => by
    rw [Es] at h
    obtain ⟨k', x, t, rfl, h2, h3, h4⟩ := h
    rw [fnd, mget, h2, Mk.eq]
    have ih := Es.look h4 k
    by_cases hk : k = k'
    · subst hk; simp; exact h3
    · rw [if_neg (by simpa using hk), if_neg (fun e => hk e.symm)]
      cases hf : fnd (Mk.key k) es with
      | none => rw [hf] at ih; exact ih
      | some p => rw [hf] at ih; exact ih
theorem Es.get {es : List MapEntry} {m : List (κ × β)} (h : Es μ es m) (k : κ) {z : Value} {zx : β} (hz : MV.rv μ z zx) : MV.rv μ (getAt es (Mk.key k) z) ((mget m k).getD zx) := by
  have := h.look k
  unfold getAt
  rw [entAt_fnd]
  cases hf : fnd (Mk.key k) es with
  | none => rw [hf] at this; simp only at this; rw [this]; exact hz
  | some p => rw [hf] at this; obtain ⟨x, h1, h2⟩ := this; rw [h1]; exact h2
theorem Es.has {es : List MapEntry} {m : List (κ × β)} (h : Es μ es m) (k : κ) : hasAt es (Mk.key k) = (mget m k).isSome := by
  have := h.look k
  unfold hasAt
  rw [entAt_fnd]
  cases hf : fnd (Mk.key k) es with
  | none => rw [hf] at this; simp only at this; rw [this]; rfl
  | some p => rw [hf] at this; obtain ⟨x, h1, h2⟩ := this; rw [h1]; rfl
theorem Es.put : ∀ {es : List MapEntry} {m : List (κ × β)}, Es μ es m → ∀ (k : κ) {v : Value} {x : β}, MV.rv μ v x → ∀ c, Es μ (match fnd (Mk.key k) es with | some (i, _) => es.modify i fun e => { e with key := Mk.key k, val := v } | none => es ++ [{ key := Mk.key k, val := v, born := c }]) (mput m k x)
  | [], m, h, k, v, x, hv, c => by
    rw [Es] at h; subst h
    exact ⟨k, x, [], rfl, rfl, hv, rfl⟩
  | e :: es, m, h, k, v, x, hv, c => by
    rw [Es] at h
    obtain ⟨k', x', t, rfl, h2, h3, h4⟩ := h
    rw [fnd, mput, h2, Mk.eq]
    have ih := Es.put h4 k hv c
    by_cases hk : k = k'
    · subst hk
      simp
      exact ⟨k, x, t, rfl, rfl, hv, h4⟩
    · rw [if_neg (by simpa using hk), if_neg (fun e => hk e.symm)]
      cases hf : fnd (Mk.key k) es with
      | none => rw [hf] at ih; exact ⟨k', x', _, rfl, h2, h3, ih⟩
      | some p => rw [hf] at ih; exact ⟨k', x', _, rfl, h2, h3, ih⟩
theorem Mq.put {es : List MapEntry} {c : Nat} {m : List (κ × β)} (h : Mq μ es c m) (k : κ) {v : Value} {x : β} (hv : MV.rv μ v x) : Mq μ (putAt es c (Mk.key k) v) (putC es c (Mk.key k)) (mput m k x) := by
  have hp := h.kv.put k hv c
  have e1 : ∀ i, (es.modify i fun e => { e with key := Mk.key k, val := v }).map (·.born) = es.map (·.born) := by
    intro i
    refine List.ext_getElem (by simp) fun j h1 h2 => ?_
    simp only [List.getElem_map, List.getElem_modify]
    split <;> rfl
  have lt2 : ∀ l : List MapEntry, l.map (·.born) = es.map (·.born) → ∀ e ∈ l, e.born < c := fun l hl e he => by
    have hm : e.born ∈ es.map (·.born) := hl ▸ List.mem_map_of_mem he
    obtain ⟨e', he', hb⟩ := List.mem_map.1 hm
    rw [← hb]; exact h.lt e' he'
  have inc2 : ∀ l : List MapEntry, l.map (·.born) = es.map (·.born) → l.Pairwise fun a b => a.born < b.born := fun l hl => by
    have : (es.map (·.born)).Pairwise (· < ·) := List.pairwise_map.2 h.inc
    rw [← hl] at this
    exact List.pairwise_map.1 this
  unfold putAt putC
  rw [entAt_fnd]
  cases hf : fnd (Mk.key k) es with
  | some p =>
    obtain ⟨i, u⟩ := p
    rw [hf] at hp
    exact ⟨hp, lt2 _ (e1 i), inc2 _ (e1 i)⟩
  | none =>
    rw [hf] at hp
    refine ⟨hp, fun e he => ?_, ?_⟩
    · rcases List.mem_append.1 he with he | he
      · exact Nat.lt_succ_of_lt (h.lt e he)
      · simp at he; subst he; exact Nat.lt_succ_self _
    · rw [List.pairwise_append]
      refine ⟨h.inc, by simp, fun a ha b hb => ?_⟩
      simp at hb; subst hb; exact h.lt a ha
theorem Mq.nil {c : Nat} : Mq (κ := κ) (β := β) μ [] c [] := ⟨rfl, by simp, by simp⟩
/-- A map that is read. -/
def Mr (μ : M) (b : Nat) (m : List (κ × β)) : Prop := ∃ es c, (∀ w, μ w → w.heap[b]? = some (.map ⟨es⟩ c)) ∧ Mq μ es c m
theorem Mr.up {b : Nat} {m : List (κ × β)} (h : Mr μ b m) (l : Le μ μ') : Mr μ' b m := by
  obtain ⟨es, c, h1, h2⟩ := h
  exact ⟨es, c, fun w hw => h1 w (l w hw), h2.up l⟩
theorem _root_.Go.Wk.Sep.frzMap {b c : Nat} {es : List MapEntry} {m : List (κ × β)} (h : Sq μ w0 w (.map b es c :: rs)) (hm : Mq μ es c m) : ∃ μ', Le μ μ' ∧ Mr μ' b m ∧ Sq μ' w0 w rs :=
  ⟨_, fun _ hw => hw.1, ⟨es, c, fun _ hw => hw.2, hm.up fun _ hw => hw.1⟩, Sep.frz (B := fun w => w.heap[b]? = some (.map ⟨es⟩ c)) h fun _ hw => hw⟩
/-- Reading at a key: the value, and what it reads as. -/
theorem s_mget2 {x y : Operand} {kt et : TypeId} {z : Value} {b c : Nat} {es : List MapEntry} {m : List (κ × β)} {k : κ} {zx : β} (hT : P.underlying T = some (.map kt et)) (hk : P.underlying kt = some (Mk.kd (κ := κ))) (hx : Ev fr x (.map (some b))) (hy : Ev fr y (Mk.key k))
    (hz : ∀ w, (zeroValue et).run P w = .ok z w) (hzx : MV.rv μ z zx) (hb : w.heap[b]? = some (.map ⟨es⟩ c)) (he : Mq μ es c m)
    (h : ∀ v, MV.rv μ v ((mget m k).getD zx) → Put fr dst (.tuple #[v, .bool (mget m k).isSome]) fun fr' => K fr' ds w) : OW P (Oper.mk dst (.lookup T x y true) ty pos after g) fr ds w K Q := by
  obtain ⟨fr', hd⟩ := dt_ex fr dst (.tuple #[getAt es (Mk.key k) z, .bool (hasAt es (Mk.key k))])
  refine s_look2H hT hk hx hy (Mk.kt k) hz hb he.kv.keys hd ?_
  rw [he.kv.has k] at hd
  exact h _ (he.kv.get k hzx) fr' hd
theorem s_mget1 {x y : Operand} {kt et : TypeId} {z : Value} {b c : Nat} {es : List MapEntry} {m : List (κ × β)} {k : κ} {zx : β} (hT : P.underlying T = some (.map kt et)) (hk : P.underlying kt = some (Mk.kd (κ := κ))) (hx : Ev fr x (.map (some b))) (hy : Ev fr y (Mk.key k))
    (hz : ∀ w, (zeroValue et).run P w = .ok z w) (hzx : MV.rv μ z zx) (hb : w.heap[b]? = some (.map ⟨es⟩ c)) (he : Mq μ es c m)
    (h : ∀ v, MV.rv μ v ((mget m k).getD zx) → Put fr dst v fun fr' => K fr' ds w) : OW P (Oper.mk dst (.lookup T x y false) ty pos after g) fr ds w K Q := by
  obtain ⟨fr', hd⟩ := dt_ex fr dst (getAt es (Mk.key k) z)
  refine s_lookH hT hk hx hy (Mk.kt k) hz hb he.kv.keys hd ?_
  exact h _ (he.kv.get k hzx) fr' hd
/-- A pointer at a key, or none. -/
theorem Es.getP {α : Type} [Mo α] [MV α] (hrv : ∀ (v : Value) (x : α), MV.rv μ v x → Pv μ v x) {es : List MapEntry} {m : List (κ × α)} (h : Es μ es m) (k : κ) : Np μ (getAt es (Mk.key k) (.pointer none)) (mget m k) := by
  have := h.look k
  unfold getAt
  rw [entAt_fnd]
  cases hf : fnd (Mk.key k) es with
  | none => rw [hf] at this; simp only at this; rw [this]; rfl
  | some p => rw [hf] at this; obtain ⟨x, h1, h2⟩ := this; rw [h1]; exact hrv _ _ h2
theorem s_mgetP2 {α : Type} [Mo α] [MV α] (hrv : ∀ (v : Value) (x : α), MV.rv μ v x → Pv μ v x) {x y : Operand} {kt et : TypeId} {b c : Nat} {es : List MapEntry} {m : List (κ × α)} {k : κ} (hT : P.underlying T = some (.map kt et)) (hk : P.underlying kt = some (Mk.kd (κ := κ))) (hx : Ev fr x (.map (some b))) (hy : Ev fr y (Mk.key k))
    (hz : ∀ w, (zeroValue et).run P w = .ok (.pointer none) w) (hb : w.heap[b]? = some (.map ⟨es⟩ c)) (he : Mq μ es c m)
    (h : ∀ v, Np μ v (mget m k) → Put fr dst (.tuple #[v, .bool (mget m k).isSome]) fun fr' => K fr' ds w) : OW P (Oper.mk dst (.lookup T x y true) ty pos after g) fr ds w K Q := by
  obtain ⟨fr', hd⟩ := dt_ex fr dst (.tuple #[getAt es (Mk.key k) (.pointer none), .bool (hasAt es (Mk.key k))])
  refine s_look2H hT hk hx hy (Mk.kt k) hz hb he.kv.keys hd ?_
  rw [he.kv.has k] at hd
  exact h _ (he.kv.getP hrv k) fr' hd
theorem s_mgetP1 {α : Type} [Mo α] [MV α] (hrv : ∀ (v : Value) (x : α), MV.rv μ v x → Pv μ v x) {x y : Operand} {kt et : TypeId} {b c : Nat} {es : List MapEntry} {m : List (κ × α)} {k : κ} (hT : P.underlying T = some (.map kt et)) (hk : P.underlying kt = some (Mk.kd (κ := κ))) (hx : Ev fr x (.map (some b))) (hy : Ev fr y (Mk.key k))
    (hz : ∀ w, (zeroValue et).run P w = .ok (.pointer none) w) (hb : w.heap[b]? = some (.map ⟨es⟩ c)) (he : Mq μ es c m)
    (h : ∀ v, Np μ v (mget m k) → Put fr dst v fun fr' => K fr' ds w) : OW P (Oper.mk dst (.lookup T x y false) ty pos after g) fr ds w K Q := by
  obtain ⟨fr', hd⟩ := dt_ex fr dst (getAt es (Mk.key k) (.pointer none))
  refine s_lookH hT hk hx hy (Mk.kt k) hz hb he.kv.keys hd ?_
  exact h _ (he.kv.getP hrv k) fr' hd
theorem zv_of {et : TypeId} {z : Value} (h : (P.info? et).map (fun i => i.zero) = some (some z)) : ∀ w, (zeroValue et).run P w = .ok z w := fun w => by
  cases hi : P.info? et with
  | none => rw [hi] at h; cases h
  | some i =>
    rw [hi] at h
    simp only [Option.map_some, Option.some.injEq] at h
    simp [zeroValue, typeInfo, hi, h]
theorem s_mputM {x y z : Operand} {kt et : TypeId} {v : Value} {b c k : Nat} {es : List MapEntry} {kk : κ} {m : List (κ × β)} {xx : β} (hT : P.underlying T = some (.map kt et)) (hk : P.underlying kt = some (Mk.kd (κ := κ))) (hx : Ev fr x (.map (some b))) (hy : Ev fr y (Mk.key kk)) (hz : Ev fr z v) (hv : MV.rv μ v xx)
    (hS : Sq μ w0 w rs) (hl : Lk rs k (.map b es c)) (he : Mq μ es c m)
    (hd : Dt fr dst undef fr') (h : ∀ es' c' w' rs', Mq μ es' c' (mput m kk xx) → Pt rs k (.map b es' c') rs' → Sq μ w0 w' rs' → K fr' ds w') : OW P (Oper.mk dst (.mapUpdate T x y z) ty pos after g) fr ds w K Q :=
  s_mput hT hk hx hy (Mk.kt kk) hz hS hl he.kv.keys hd fun w' rs' => h _ _ w' rs' (he.put kk hv)
theorem s_minsM {x y z : Operand} {kt et : TypeId} {v : Value} {b c k : Nat} {es : List MapEntry} {kk : κ} {m : List (κ × β)} {xx : β} (hT : P.underlying T = some (.map kt et)) (hk : P.underlying kt = some (Mk.kd (κ := κ))) (hx : Ev fr x (.map (some b))) (hy : Ev fr y (Mk.key kk)) (hz : Ev fr z v) (hv : MV.rv μ v xx)
    (hS : Sq μ w0 w rs) (hl : Lk rs k (.map b es c)) (he : Mq μ es c m)
    (hd : Dt fr dst undef fr') (h : ∀ es' c' w' rs', Mq μ es' c' (mput m kk xx) → Pt rs k (.map b es' c') rs' → Sq μ w0 w' rs' → K fr' ds w') : OW P (Oper.mk dst (.insert T x y z) ty pos after g) fr ds w K Q :=
  ⟨fun K2 hK => (s_mputM (dst := dst) (ty := ty) (pos := pos) (after := after) (g := g) hT hk hx hy hz hv hS hl he hd h).out K2 hK⟩
theorem s_lenm {x : Operand} {kt et : TypeId} {b c : Nat} {es : List MapEntry} {m : List (κ × β)} (hT : P.underlying T = some (.map kt et)) (hx : Ev fr x (.map (some b))) (hb : w.heap[b]? = some (.map ⟨es⟩ c)) (he : Mq μ es c m)
    (hp : Dt fr dst (.int .i64 m.length) fr') (h : K fr' ds w) : OW P (Oper.mk dst (.call { callee := .builtin .len, args := #[x], argTypes := #[T] }) ty pos after g) fr ds w K Q := by
  refine op_v (w' := w) ?_ hp h
  have := he.kv.len
  simp [execOp, resolve, invoke, builtin, Builtin.len_, goInt, hx ds, run_underlying hT, getObj, Sem.run, hb, Result.andThen, this]
end
end Go.Xt
