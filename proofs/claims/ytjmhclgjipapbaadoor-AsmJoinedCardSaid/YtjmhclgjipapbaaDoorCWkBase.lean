/- A small calculus of steps: lemmas that carry a walk over the operations of a function, one lemma for each operation, with the frame as a plain list. Over any program. -/
import Derived.Tactics
import Derived.Defers
import Derived.Recover
import Derived.Lib.Strings
import Derived.Laws.Append
import Derived.Below
set_option linter.unusedSectionVars false
set_option linter.unusedVariables false
set_option linter.unusedSimpArgs false
namespace Go.Wk
open Go.RowKit

/-- The place n of a list holds v. -/
def Lk {α : Type} (l : List α) (n : Nat) (v : α) : Prop := l[n]? = some v
/-- The list l with v at place n is l'. -/
def Pt {α : Type} (l : List α) (n : Nat) (v : α) (l' : List α) : Prop := l.set n v = l'
theorem d0 {α : Type} {v : α} {l : List α} : Lk (v :: l) 0 v := rfl
theorem p0 {α : Type} {x v : α} {l : List α} : Pt (x :: l) 0 v (v :: l) := rfl
theorem d1 {α : Type} {a0 : α} {v : α} {l : List α} : Lk (a0 :: v :: l) 1 v := rfl
theorem p1 {α : Type} {a0 : α} {x v : α} {l : List α} : Pt (a0 :: x :: l) 1 v (a0 :: v :: l) := rfl
theorem d2 {α : Type} {a0 a1 : α} {v : α} {l : List α} : Lk (a0 :: a1 :: v :: l) 2 v := rfl
theorem p2 {α : Type} {a0 a1 : α} {x v : α} {l : List α} : Pt (a0 :: a1 :: x :: l) 2 v (a0 :: a1 :: v :: l) := rfl
theorem d3 {α : Type} {a0 a1 a2 : α} {v : α} {l : List α} : Lk (a0 :: a1 :: a2 :: v :: l) 3 v := rfl
theorem p3 {α : Type} {a0 a1 a2 : α} {x v : α} {l : List α} : Pt (a0 :: a1 :: a2 :: x :: l) 3 v (a0 :: a1 :: a2 :: v :: l) := rfl
theorem d4 {α : Type} {a0 a1 a2 a3 : α} {v : α} {l : List α} : Lk (a0 :: a1 :: a2 :: a3 :: v :: l) 4 v := rfl
theorem p4 {α : Type} {a0 a1 a2 a3 : α} {x v : α} {l : List α} : Pt (a0 :: a1 :: a2 :: a3 :: x :: l) 4 v (a0 :: a1 :: a2 :: a3 :: v :: l) := rfl
theorem d5 {α : Type} {a0 a1 a2 a3 a4 : α} {v : α} {l : List α} : Lk (a0 :: a1 :: a2 :: a3 :: a4 :: v :: l) 5 v := rfl
theorem p5 {α : Type} {a0 a1 a2 a3 a4 : α} {x v : α} {l : List α} : Pt (a0 :: a1 :: a2 :: a3 :: a4 :: x :: l) 5 v (a0 :: a1 :: a2 :: a3 :: a4 :: v :: l) := rfl
theorem d6 {α : Type} {a0 a1 a2 a3 a4 a5 : α} {v : α} {l : List α} : Lk (a0 :: a1 :: a2 :: a3 :: a4 :: a5 :: v :: l) 6 v := rfl
theorem p6 {α : Type} {a0 a1 a2 a3 a4 a5 : α} {x v : α} {l : List α} : Pt (a0 :: a1 :: a2 :: a3 :: a4 :: a5 :: x :: l) 6 v (a0 :: a1 :: a2 :: a3 :: a4 :: a5 :: v :: l) := rfl
theorem d7 {α : Type} {a0 a1 a2 a3 a4 a5 a6 : α} {v : α} {l : List α} : Lk (a0 :: a1 :: a2 :: a3 :: a4 :: a5 :: a6 :: v :: l) 7 v := rfl
theorem p7 {α : Type} {a0 a1 a2 a3 a4 a5 a6 : α} {x v : α} {l : List α} : Pt (a0 :: a1 :: a2 :: a3 :: a4 :: a5 :: a6 :: x :: l) 7 v (a0 :: a1 :: a2 :: a3 :: a4 :: a5 :: a6 :: v :: l) := rfl
theorem d8 {α : Type} {a0 a1 a2 a3 a4 a5 a6 a7 : α} {v : α} {l : List α} : Lk (a0 :: a1 :: a2 :: a3 :: a4 :: a5 :: a6 :: a7 :: v :: l) 8 v := rfl
theorem p8 {α : Type} {a0 a1 a2 a3 a4 a5 a6 a7 : α} {x v : α} {l : List α} : Pt (a0 :: a1 :: a2 :: a3 :: a4 :: a5 :: a6 :: a7 :: x :: l) 8 v (a0 :: a1 :: a2 :: a3 :: a4 :: a5 :: a6 :: a7 :: v :: l) := rfl
theorem d9 {α : Type} {a0 a1 a2 a3 a4 a5 a6 a7 a8 : α} {v : α} {l : List α} : Lk (a0 :: a1 :: a2 :: a3 :: a4 :: a5 :: a6 :: a7 :: a8 :: v :: l) 9 v := rfl
theorem p9 {α : Type} {a0 a1 a2 a3 a4 a5 a6 a7 a8 : α} {x v : α} {l : List α} : Pt (a0 :: a1 :: a2 :: a3 :: a4 :: a5 :: a6 :: a7 :: a8 :: x :: l) 9 v (a0 :: a1 :: a2 :: a3 :: a4 :: a5 :: a6 :: a7 :: a8 :: v :: l) := rfl
theorem ds {α : Type} {a0 a1 a2 a3 a4 a5 a6 a7 a8 a9 v : α} {l : List α} {n : Nat} (h : Lk l n v) : Lk (a0 :: a1 :: a2 :: a3 :: a4 :: a5 :: a6 :: a7 :: a8 :: a9 :: l) (n + 10) v := h
theorem ps {α : Type} {a0 a1 a2 a3 a4 a5 a6 a7 a8 a9 v : α} {l l' : List α} {n : Nat} (h : Pt l n v l') : Pt (a0 :: a1 :: a2 :: a3 :: a4 :: a5 :: a6 :: a7 :: a8 :: a9 :: l) (n + 10) v (a0 :: a1 :: a2 :: a3 :: a4 :: a5 :: a6 :: a7 :: a8 :: a9 :: l') := by unfold Pt at *; subst h; rfl

/-- A frame out of a list. -/
def F (fr : List Value) (ds : List Deferred) : Act := ⟨⟨fr⟩, ds⟩
/-- What an operand is in a frame. -/
def Ev (fr : List Value) (x : Operand) (v : Value) : Prop := ∀ ds, (F fr ds).eval x = v
theorem et {fr : List Value} {n : Nat} {v : Value} (h : Lk fr n v) : Ev fr (.tmp n) v := by
  intro ds
  unfold Lk at h
  simp [F, Act.eval, h]
theorem ec {fr : List Value} {v : Value} : Ev fr (.const v) v := fun _ => rfl
theorem ef {fr : List Value} {f : Nat} : Ev fr (.func f) (.func (.func f) #[] #[]) := fun _ => rfl
theorem eg {fr : List Value} {g : Nat} : Ev fr (.global g) (.pointer (some ⟨g, 0, none⟩)) := fun _ => rfl
/-- The frame behind a result. -/
def Dt (fr : List Value) (dst : Option Tmp) (v : Value) (fr' : List Value) : Prop := ∀ ds, (F fr ds).put dst v = F fr' ds
theorem dn {fr : List Value} {v : Value} : Dt fr none v fr := fun _ => rfl
theorem dt {fr fr' : List Value} {n : Nat} {v : Value} (h : Pt fr n v fr') : Dt fr (some n) v fr' := by
  intro ds
  unfold Pt at h
  subst h
  simp [F, Act.put]
theorem Dt.rw {fr fr' : List Value} {dst : Option Tmp} {v : Value} (h : Dt fr dst v fr') {K : Act → World → Prop} {ds : List Deferred} {w : World} (k : K (F fr' ds) w) : K ((F fr ds).put dst v) w := by
  rw [h ds]; exact k
/-- Arguments. -/
def Evs (fr : List Value) (xs : List Operand) (vs : List Value) : Prop := ∀ ds, xs.map (F fr ds).eval = vs
theorem e0 {fr : List Value} : Evs fr [] [] := fun _ => rfl
theorem e1 {fr : List Value} {x : Operand} {v : Value} {xs : List Operand} {vs : List Value} (h : Ev fr x v) (hs : Evs fr xs vs) : Evs fr (x :: xs) (v :: vs) := by
  intro ds
  simp [h ds, hs ds]

/-- A piece of code, from a frame on. (These three are structures, so that no goal is unfolded.) -/
structure CW (P : Program) (c : Code) (Q : Exit → Act → World → Prop) (fr : List Value) (ds : List Deferred) (w : World) : Prop where
  out : c.wp P Q (F fr ds) w
/-- A row of operations, from a frame on. -/
structure WL (P : Program) (ops : Array Oper) (Q : Exit → Act → World → Prop) (l : List Oper) (fr : List Value) (ds : List Deferred) (w : World) : Prop where
  out : wpList P ops Q l (F fr ds) w
/-- An operation, from a frame on. -/
structure OW (P : Program) (o : Oper) (fr : List Value) (ds : List Deferred) (w : World) (K : List Value → List Deferred → World → Prop) (Q : Exit → Act → World → Prop) : Prop where
  out : ∀ K2 : Act → World → Prop, (∀ fr ds w, K fr ds w → K2 (F fr ds) w) → o.wp P (F fr ds) w K2 Q
/-- Code as what comes next. -/
def Nx (P : Program) (c : Code) (Q : Exit → Act → World → Prop) : Act → World → Prop := fun a w => ∃ fr ds, a = F fr ds ∧ CW P c Q fr ds w

section code
variable {P : Program} {Q : Exit → Act → World → Prop} {fr : List Value} {ds : List Deferred} {w : World}

theorem cseq {x y : Code} (h : CW P x (Exit.then (Nx P y Q) Q) fr ds w) : CW P (.seq x y) Q fr ds w :=
  ⟨wp_seq (wp_mono h.out fun e a w hq => by
    cases e with
    | normal => obtain ⟨fr, ds, rfl, h⟩ := hq; exact h.out
    | exit id => exact hq
    | goto l => exact hq
    | ret => exact hq
    | panic ch => exact hq
    | outgrown => exact hq)⟩
theorem creg {id : Nat} {l : List Oper} (h : WL P l.toArray Q l fr ds w) : CW P (.region id l.toArray false) Q fr ds w := ⟨wp_region_lit h.out⟩
theorem cskip (h : Q .normal (F fr ds) w) : CW P .skip Q fr ds w := ⟨wp_skip h⟩
theorem cret (h : Q .ret (F fr ds) w) : CW P .ret Q fr ds w := ⟨wp_ret h⟩
theorem cexit {id : Nat} (h : Q (.exit id) (F fr ds) w) : CW P (.exit id) Q fr ds w := ⟨wp_exit h⟩
theorem cblock {id : Nat} {c : Code} (h : CW P c (Exit.inBlock id Q) fr ds w) : CW P (.block id c) Q fr ds w := ⟨wp_block h.out⟩
theorem cif {c : Operand} {x y : Code} {b : Bool} (hc : Ev fr c (.bool b)) (h1 : b = true → CW P x Q fr ds w) (h2 : b = false → CW P y Q fr ds w) :
    CW P (.cond c x y) Q fr ds w := ⟨wp_cond_split (hc ds) (fun h => (h1 h).out) fun h => (h2 h).out⟩
theorem cifd {c : Operand} {x y : Code} {p : Prop} [Decidable p] (hc : Ev fr c (.bool (decide p))) (h1 : p → CW P x Q fr ds w) (h2 : ¬ p → CW P y Q fr ds w) :
    CW P (.cond c x y) Q fr ds w := cif hc (fun h => h1 (of_decide_eq_true h)) (fun h => h2 (of_decide_eq_false h))
theorem cifdt {c : Operand} {x y : Code} {p : Prop} [Decidable p] (hc : Ev fr c (.bool (decide p))) (hp : p) (h1 : CW P x Q fr ds w) : CW P (.cond c x y) Q fr ds w := cifd hc (fun _ => h1) fun h => absurd hp h
theorem cifdf {c : Operand} {x y : Code} {p : Prop} [Decidable p] (hc : Ev fr c (.bool (decide p))) (hp : ¬ p) (h1 : CW P y Q fr ds w) : CW P (.cond c x y) Q fr ds w := cifd hc (fun h => absurd h hp) fun _ => h1
theorem cift {c : Operand} {x y : Code} (hc : Ev fr c (.bool true)) (h1 : CW P x Q fr ds w) : CW P (.cond c x y) Q fr ds w := ⟨wp_cond_true (hc ds) h1.out⟩
theorem ciff {c : Operand} {x y : Code} (hc : Ev fr c (.bool false)) (h1 : CW P y Q fr ds w) : CW P (.cond c x y) Q fr ds w := ⟨wp_cond_false (hc ds) h1.out⟩

/- what follows: the exits -/
theorem xn {c : Code} {Q' : Exit → Act → World → Prop} (h : CW P c Q' fr ds w) : Exit.then (Nx P c Q') Q .normal (F fr ds) w := ⟨fr, ds, rfl, h⟩
theorem xl {n : Act → World → Prop} {a : Act} (h : n a w) : Exit.then n Q .normal a w := h
theorem xe {n : Act → World → Prop} {a : Act} {id : Nat} (h : Q (.exit id) a w) : Exit.then n Q (.exit id) a w := h
theorem xr {n : Act → World → Prop} {a : Act} (h : Q .ret a w) : Exit.then n Q .ret a w := h
theorem xp {n : Act → World → Prop} {a : Act} {ch : List PanicEntry} (h : Q (.panic ch) a w) : Exit.then n Q (.panic ch) a w := h
theorem bn {a : Act} {id : Nat} (h : Q .normal a w) : Exit.inBlock id Q .normal a w := h
theorem br {a : Act} {id : Nat} (h : Q .ret a w) : Exit.inBlock id Q .ret a w := h
theorem bp {a : Act} {id : Nat} {ch : List PanicEntry} (h : Q (.panic ch) a w) : Exit.inBlock id Q (.panic ch) a w := h
theorem bh {a : Act} {id : Nat} (h : Q .normal a w) : Exit.inBlock id Q (.exit id) a w := by simpa [Exit.inBlock] using h
theorem bm {a : Act} {id j : Nat} (hj : (j == id) = false) (h : Q (.exit j) a w) : Exit.inBlock id Q (.exit j) a w := by
  have : ¬ j = id := by simpa using hj
  simpa [Exit.inBlock, this] using h

/-- What becomes of a place: it is kept, it is open, it is as said. -/
inductive Mk where
  | k
  | o (n : Nat)
  | i (v : Value)
/-- A frame with some places turned. -/
def mrg (t : Nat → Value) : List Mk → List Value → List Value
  | [], fr => fr
  | _ :: _, [] => []
  | .k :: ms, a :: fr => a :: mrg t ms fr
  | .o n :: ms, _ :: fr => t n :: mrg t ms fr
  | .i v :: ms, _ :: fr => v :: mrg t ms fr
/-- A frame with some places turned, place by place. -/
def Mg (t : Nat → Value) (ms : List Mk) (fr fr' : List Value) : Prop := mrg t ms fr = fr'
theorem mz {t : Nat → Value} {l : List Value} : Mg t [] l l := rfl
theorem mk {t : Nat → Value} {ms : List Mk} {a : Value} {l l' : List Value} (h : Mg t ms l l') : Mg t (.k :: ms) (a :: l) (a :: l') := by unfold Mg at *; rw [mrg, h]
theorem mo {t : Nat → Value} {ms : List Mk} {n : Nat} {a : Value} {l l' : List Value} (h : Mg t ms l l') : Mg t (.o n :: ms) (a :: l) (t n :: l') := by unfold Mg at *; rw [mrg, h]
theorem mi {t : Nat → Value} {ms : List Mk} {v a : Value} {l l' : List Value} (h : Mg t ms l l') : Mg t (.i v :: ms) (a :: l) (v :: l') := by unfold Mg at *; rw [mrg, h]
theorem nrm {t : Nat → Value} {ms : List Mk} {a b : List Value} (e : Mg t ms a b) (h : Q .normal (F b ds) w) : Q .normal (F (mrg t ms a) ds) w := by rw [show mrg t ms a = b from e]; exact h
theorem cnrm {c : Code} {t : Nat → Value} {ms : List Mk} {a b : List Value} (e : Mg t ms a b) (h : CW P c Q b ds w) : CW P c Q (mrg t ms a) ds w := by rw [show mrg t ms a = b from e]; exact h
/-- The frame fr' is fr but for what is said of its places; an open place holds whatever it holds. -/
inductive Ag : List Mk → List Value → List Value → Prop where
  | z {l : List Value} : Ag [] l l
  | k {ms : List Mk} {a : Value} {l l' : List Value} (h : Ag ms l l') : Ag (.k :: ms) (a :: l) (a :: l')
  | o {ms : List Mk} {n : Nat} {a b : Value} {l l' : List Value} (h : Ag ms l l') : Ag (.o n :: ms) (a :: l) (b :: l')
  | i {ms : List Mk} {v a : Value} {l l' : List Value} (h : Ag ms l l') : Ag (.i v :: ms) (a :: l) (v :: l')
def opens : List Mk → List Nat
  | [] => []
  | .o n :: ms => n :: opens ms
  | .k :: ms => opens ms
  | .i _ :: ms => opens ms
theorem mrg_congr {t t' : Nat → Value} : ∀ (ms : List Mk) (fr : List Value), (∀ n ∈ opens ms, t n = t' n) → mrg t ms fr = mrg t' ms fr
  | [], _, _ => rfl
  | _ :: _, [], _ => rfl
  | .k :: ms, a :: fr, h => by rw [mrg, mrg, mrg_congr ms fr h]
  | .o n :: ms, a :: fr, h => by rw [mrg, mrg, mrg_congr ms fr fun m hm => h m (by simp [opens, hm]), h n (by simp [opens])]
  | .i v :: ms, a :: fr, h => by rw [mrg, mrg, mrg_congr ms fr h]
theorem Ag.ex {ms : List Mk} {fr fr' : List Value} (h : Ag ms fr fr') (hn : (opens ms).Nodup) : ∃ t, fr' = mrg t ms fr := by
  induction h with
  | z => exact ⟨fun _ => undef, rfl⟩
  | k _ ih => obtain ⟨t, rfl⟩ := ih hn; exact ⟨t, rfl⟩
  | @o ms n a b l l' _ ih =>
    simp only [opens, List.nodup_cons] at hn
    obtain ⟨t, rfl⟩ := ih hn.2
    refine ⟨fun m => if m = n then b else t m, ?_⟩
    rw [mrg, if_pos rfl]
    congr 1
    refine mrg_congr _ _ fun m hm => ?_
    exact (if_neg (fun e : m = n => hn.1 (by rw [← e]; exact hm))).symm
  | i _ ih => obtain ⟨t, rfl⟩ := ih hn; exact ⟨t, rfl⟩
/-- A loop: what holds at the head of each round, at a datum x: the places that are turned (u), and J; mu goes down. -/
theorem cloop {c : Code} {α : Type} (T : List Nat) (hT : T.Nodup) (u : α → List Mk) (hu : ∀ x, opens (u x) = T) (J : α → World → Prop) (mu : α → World → Nat) (x0 : α) (h0 : Ag (u x0) fr fr) (hJ : J x0 w)
    (round : ∀ x t w, J x w → CW P c (Exit.then (fun a' w' => ∃ x' fr', a' = F fr' ds ∧ Ag (u x') fr fr' ∧ J x' w' ∧ mu x' w' < mu x w) Q) (mrg t (u x) fr) ds w) :
    CW P (.loop c) Q fr ds w := by
  constructor
  intro b k cs
  have key : ∀ n x t w, mu x w = n → J x w →
      ∃ e a' w', Q e a' w' ∧ Arrives P (lone (b.at (F (mrg t (u x) fr) ds) (.code c :: .inLoop c :: k)) cs w) b k cs e a' w' := by
    intro n
    induction n using Nat.strongRecOn with
    | _ n ih =>
      intro x t w hn hI
      obtain ⟨e, a₁, w₁, hq, harr⟩ := (round x t w hI).out b (.inLoop c :: k) cs
      cases e with
      | normal =>
        obtain ⟨x', fr', rfl, hag, hI₁, hlt⟩ := hq
        obtain ⟨t', ht'⟩ := hag.ex (by rw [hu]; exact hT)
        obtain ⟨e₂, a₂, w₂, hq₂, harr₂⟩ := ih (mu x' w₁) (hn ▸ hlt) x' t' w₁ rfl hI₁
        rw [ht'] at harr
        exact ⟨e₂, a₂, w₂, hq₂, .of_steps (Steps.trans harr (.one step_inLoop)) harr₂⟩
      | exit id => exact ⟨_, a₁, w₁, hq, .pass (x := .inLoop c) rfl (fun _ _ => .inl (by simp)) harr⟩
      | goto l => exact ⟨_, a₁, w₁, hq, .pass (x := .inLoop c) rfl (fun _ _ => .inl (by simp)) harr⟩
      | ret => exact ⟨_, a₁, w₁, hq, .pass (x := .inLoop c) rfl (fun _ _ => .inl (by simp)) harr⟩
      | panic ch => exact ⟨_, a₁, w₁, hq, .pass (x := .inLoop c) rfl (fun _ _ => .inl (by simp)) harr⟩
      | outgrown => exact ⟨_, a₁, w₁, hq, .pass (x := .inLoop c) rfl (fun _ _ => .inl (by simp)) harr⟩
  obtain ⟨t0, ht0⟩ := h0.ex (by rw [hu]; exact hT)
  obtain ⟨e, a', w', hq, harr⟩ := key _ x0 t0 w rfl hJ
  rw [← ht0] at harr
  exact ⟨e, a', w', hq, .of_steps (.one step_loop) harr⟩
/-- A cut behind a piece of code: what holds there, at a datum x. The other exits are the whole's. -/
theorem ccut {c : Code} {α : Type} (T : List Nat) (hT : T.Nodup) (u : α → List Mk) (hu : ∀ x, opens (u x) = T) (J : α → World → Prop)
    (h : CW P c (Exit.then (fun a' w' => ∃ x' fr', a' = F fr' ds ∧ Ag (u x') fr fr' ∧ J x' w') Q) fr ds w)
    (k : ∀ x t w, J x w → Q .normal (F (mrg t (u x) fr) ds) w) : CW P c Q fr ds w := ⟨
  wp_mono h.out fun e a w' hq => by
    cases e with
    | normal =>
      obtain ⟨x', fr', rfl, hag, hI⟩ := hq
      obtain ⟨t', ht'⟩ := hag.ex (by rw [hu]; exact hT)
      have := k x' t' w' hI
      rw [← ht'] at this
      exact this
    | exit id => exact hq
    | goto l => exact hq
    | ret => exact hq
    | panic ch => exact hq
    | outgrown => exact hq⟩
theorem CW.mono {c : Code} {Q' : Exit → Act → World → Prop} (h : CW P c Q fr ds w) (hq : ∀ e a w, Q e a w → Q' e a w) : CW P c Q' fr ds w := ⟨wp_mono h.out hq⟩
theorem then_mono {R R' : Act → World → Prop} (h : ∀ a w, R a w → R' a w) : ∀ e a w, Exit.then R Q e a w → Exit.then R' Q e a w := fun e a w hq => by
  cases e with
  | normal => exact h a w hq
  | exit id => exact hq
  | goto l => exact hq
  | ret => exact hq
  | panic ch => exact hq
  | outgrown => exact hq
theorem cloop2 {c : Code} {α β : Type} (T : List Nat) (hT : T.Nodup) (u : α → β → List Mk) (hu : ∀ x y, opens (u x y) = T) (J : α → β → World → Prop) (mu : α → β → World → Nat) (x0 : α) (y0 : β) (h0 : Ag (u x0 y0) fr fr) (hJ : J x0 y0 w)
    (round : ∀ x y t w, J x y w → CW P c (Exit.then (fun a' w' => ∃ x' y' fr', a' = F fr' ds ∧ Ag (u x' y') fr fr' ∧ J x' y' w' ∧ mu x' y' w' < mu x y w) Q) (mrg t (u x y) fr) ds w) : CW P (.loop c) Q fr ds w :=
  cloop (α := α × β) T hT (fun p => u p.1 p.2) (fun p => hu _ _) (fun p => J p.1 p.2) (fun p => mu p.1 p.2) (x0, y0) h0 hJ fun p t w hp =>
    (round p.1 p.2 t w hp).mono (then_mono fun _ _ ⟨x', y', fr', h⟩ => ⟨(x', y'), fr', h⟩)
theorem ccut2 {c : Code} {α β : Type} (T : List Nat) (hT : T.Nodup) (u : α → β → List Mk) (hu : ∀ x y, opens (u x y) = T) (J : α → β → World → Prop)
    (h : CW P c (Exit.then (fun a' w' => ∃ x' y' fr', a' = F fr' ds ∧ Ag (u x' y') fr fr' ∧ J x' y' w') Q) fr ds w)
    (k : ∀ x y t w, J x y w → Q .normal (F (mrg t (u x y) fr) ds) w) : CW P c Q fr ds w :=
  ccut (α := α × β) T hT (fun p => u p.1 p.2) (fun p => hu _ _) (fun p => J p.1 p.2) (h.mono (then_mono fun _ _ ⟨x', y', fr', h⟩ => ⟨(x', y'), fr', h⟩)) fun p t w hp => k p.1 p.2 t w hp
theorem cloop3 {c : Code} {α β γ : Type} (T : List Nat) (hT : T.Nodup) (u : α → β → γ → List Mk) (hu : ∀ x y z, opens (u x y z) = T) (J : α → β → γ → World → Prop) (mu : α → β → γ → World → Nat) (x0 : α) (y0 : β) (z0 : γ) (h0 : Ag (u x0 y0 z0) fr fr) (hJ : J x0 y0 z0 w)
    (round : ∀ x y z t w, J x y z w → CW P c (Exit.then (fun a' w' => ∃ x' y' z' fr', a' = F fr' ds ∧ Ag (u x' y' z') fr fr' ∧ J x' y' z' w' ∧ mu x' y' z' w' < mu x y z w) Q) (mrg t (u x y z) fr) ds w) : CW P (.loop c) Q fr ds w :=
  cloop (α := α × β × γ) T hT (fun p => u p.1 p.2.1 p.2.2) (fun p => hu _ _ _) (fun p => J p.1 p.2.1 p.2.2) (fun p => mu p.1 p.2.1 p.2.2) (x0, y0, z0) h0 hJ fun p t w hp =>
    (round p.1 p.2.1 p.2.2 t w hp).mono (then_mono fun _ _ ⟨x', y', z', fr', h⟩ => ⟨(x', y', z'), fr', h⟩)
theorem ccut3 {c : Code} {α β γ : Type} (T : List Nat) (hT : T.Nodup) (u : α → β → γ → List Mk) (hu : ∀ x y z, opens (u x y z) = T) (J : α → β → γ → World → Prop)
    (h : CW P c (Exit.then (fun a' w' => ∃ x' y' z' fr', a' = F fr' ds ∧ Ag (u x' y' z') fr fr' ∧ J x' y' z' w') Q) fr ds w)
    (k : ∀ x y z t w, J x y z w → Q .normal (F (mrg t (u x y z) fr) ds) w) : CW P c Q fr ds w :=
  ccut (α := α × β × γ) T hT (fun p => u p.1 p.2.1 p.2.2) (fun p => hu _ _ _) (fun p => J p.1 p.2.1 p.2.2) (h.mono (then_mono fun _ _ ⟨x', y', z', fr', h⟩ => ⟨(x', y', z'), fr', h⟩)) fun p t w hp => k p.1 p.2.1 p.2.2 t w hp
theorem cloop4 {c : Code} {α β γ δ : Type} (T : List Nat) (hT : T.Nodup) (u : α → β → γ → δ → List Mk) (hu : ∀ x y z v, opens (u x y z v) = T) (J : α → β → γ → δ → World → Prop) (mu : α → β → γ → δ → World → Nat) (x0 : α) (y0 : β) (z0 : γ) (v0 : δ) (h0 : Ag (u x0 y0 z0 v0) fr fr) (hJ : J x0 y0 z0 v0 w)
    (round : ∀ x y z v t w, J x y z v w → CW P c (Exit.then (fun a' w' => ∃ x' y' z' v' fr', a' = F fr' ds ∧ Ag (u x' y' z' v') fr fr' ∧ J x' y' z' v' w' ∧ mu x' y' z' v' w' < mu x y z v w) Q) (mrg t (u x y z v) fr) ds w) : CW P (.loop c) Q fr ds w :=
  cloop (α := α × β × γ × δ) T hT (fun p => u p.1 p.2.1 p.2.2.1 p.2.2.2) (fun p => hu _ _ _ _) (fun p => J p.1 p.2.1 p.2.2.1 p.2.2.2) (fun p => mu p.1 p.2.1 p.2.2.1 p.2.2.2) (x0, y0, z0, v0) h0 hJ fun p t w hp =>
    (round p.1 p.2.1 p.2.2.1 p.2.2.2 t w hp).mono (then_mono fun _ _ ⟨x', y', z', v', fr', h⟩ => ⟨(x', y', z', v'), fr', h⟩)
theorem ccut4 {c : Code} {α β γ δ : Type} (T : List Nat) (hT : T.Nodup) (u : α → β → γ → δ → List Mk) (hu : ∀ x y z v, opens (u x y z v) = T) (J : α → β → γ → δ → World → Prop)
    (h : CW P c (Exit.then (fun a' w' => ∃ x' y' z' v' fr', a' = F fr' ds ∧ Ag (u x' y' z' v') fr fr' ∧ J x' y' z' v' w') Q) fr ds w)
    (k : ∀ x y z v t w, J x y z v w → Q .normal (F (mrg t (u x y z v) fr) ds) w) : CW P c Q fr ds w :=
  ccut (α := α × β × γ × δ) T hT (fun p => u p.1 p.2.1 p.2.2.1 p.2.2.2) (fun p => hu _ _ _ _) (fun p => J p.1 p.2.1 p.2.2.1 p.2.2.2) (h.mono (then_mono fun _ _ ⟨x', y', z', v', fr', h⟩ => ⟨(x', y', z', v'), fr', h⟩)) fun p t w hp => k p.1 p.2.1 p.2.2.1 p.2.2.2 t w hp
/-- A bool that is looked at. -/
theorem Pt.same {α : Type} {l : List α} {n : Nat} {v : α} {l' : List α} (h : Lk l n v) (hp : Pt l n v l') : l' = l := by
  unfold Lk at h
  unfold Pt at hp
  subst hp
  obtain ⟨hn, rfl⟩ := List.getElem?_eq_some_iff.1 h
  exact List.set_getElem_self hn
theorem wsp {ops : Array Oper} {l : List Oper} {frt frf : List Value} {d : Nat} {b : Bool} (hl : Lk fr d (.bool b)) (ht : Pt fr d (.bool true) frt) (hf : Pt fr d (.bool false) frf)
    (h1 : b = true → WL P ops Q l frt ds w) (h0 : b = false → WL P ops Q l frf ds w) : WL P ops Q l fr ds w := by
  cases b with
  | true => have := h1 rfl; rw [Pt.same hl ht] at this; exact this
  | false => have := h0 rfl; rw [Pt.same hl hf] at this; exact this
theorem wspd {ops : Array Oper} {l : List Oper} {frt frf : List Value} {d : Nat} {p : Prop} [Decidable p] (hl : Lk fr d (.bool (decide p))) (ht : Pt fr d (.bool true) frt) (hf : Pt fr d (.bool false) frf)
    (h1 : p → WL P ops Q l frt ds w) (h0 : ¬ p → WL P ops Q l frf ds w) : WL P ops Q l fr ds w :=
  wsp hl ht hf (fun h => h1 (of_decide_eq_true h)) (fun h => h0 (of_decide_eq_false h))
end code
end Go.Wk
