/- AsmJoined, in plain: what is read line by line is read of two texts, one behind the other. -/
import Derived.Test.YtjmhclgjipapbaaDoorCAsm2M
import Derived.Lib.CutLaws
import Derived.Lib.IndexMore
import Derived.Lib.CountLaws
set_option linter.unusedSectionVars false
set_option linter.unusedSimpArgs false
set_option linter.unusedVariables false
namespace Go.Y
open Go.Wk Go.Xt
theorem i64_ok {n : Int} (h : -9223372036854775808 ≤ n ∧ n ≤ 9223372036854775807) : i64 n = some n := if_pos h
theorem at_ok {α : Type} {l : List α} {i : Nat} (h : i < l.length) : at_ l (i : Int) = some l[i] := by simp [at_, h]
theorem bS {α β : Type} {x : α} {f : α → Option β} : Option.bind (some x) f = f x := rfl
theorem sameInts_refl (l : List Int) (hl : l.length ≤ 4294967296) : ∀ (n i : Nat), i ≤ l.length → l.length < n + i → r6_sameInts_l1 l l n i = some true := by
  intro n
  induction n with
  | zero => intro i h1 h2; omega
  | succ n ih =>
    intro i h1 h2
    unfold r6_sameInts_l1
    split
    · rename_i h
      have h : i < l.length := by omega
      rw [at_ok h, bS, bS, if_neg (by simp), i64_ok (by omega), bS]
      exact ih (i + 1) (by omega) (by omega)
    · rfl
theorem same_code (u : Int) (l : List TInstr) (k : Int → Option Bool) (hl : l.length ≤ 4294967296) : ∀ (n i : Nat), i ≤ l.length → l.length < n + i → r6_same_l3 u l l k n i = Option.bind (i64 (u + 1)) k := by
  intro n
  induction n with
  | zero => intro i h1 h2; omega
  | succ n ih =>
    intro i h1 h2
    unfold r6_same_l3
    split
    · rename_i h
      have h : i < l.length := by omega
      rw [at_ok h, bS, bS, if_pos (by simp [andL]), i64_ok (by omega), bS]
      exact ih (i + 1) (by omega) (by omega)
    · rfl
structure Small (m : TModule) : Prop where
  b : m.Boxes.length ≤ 4294967296
  u : m.Units.length ≤ 4294967296
  e : ∀ x ∈ m.Units, x.Code.length ≤ 4294967296 ∧ x.Locals.length ≤ 4294967296
theorem same_units (m : TModule) (hm : Small m) : ∀ (n i : Nat), i ≤ m.Units.length → m.Units.length < n + i → r6_same_l2 m m n i = some true := by
  intro n
  induction n with
  | zero => intro i h1 h2; omega
  | succ n ih =>
    intro i h1 h2
    unfold r6_same_l2
    split
    · rename_i h
      have h : i < m.Units.length := by omega
      obtain ⟨e1, e2⟩ := hm.e _ (List.getElem_mem h)
      have hi := hm.u
      rw [at_ok h, bS, bS]
      unfold r6_same_j2
      rw [if_neg (by simp), if_neg (by simp), if_neg (by simp), if_neg (by simp)]
      unfold r6_sameInts
      rw [if_neg (by simp)]
      have := sameInts_refl m.Units[i].Locals e2 (m.Units[i].Locals.length + 1) 0 (by omega) (by omega)
      rw [show ((0 : Nat) : Int) = 0 from rfl] at this
      rw [this, bS, if_pos rfl]
      unfold r6_same_j3
      rw [if_neg (by simp)]
      have := same_code i m.Units[i].Code (r6_same_l2 m m n) e1 (m.Units[i].Code.length + 1) 0 (by omega) (by omega)
      rw [show ((0 : Nat) : Int) = 0 from rfl] at this
      rw [this, i64_ok (by omega), bS]
      exact ih (i + 1) (by omega) (by omega)
    · rfl
theorem same_boxes (m : TModule) (hm : Small m) : ∀ (n i : Nat), i ≤ m.Boxes.length → m.Boxes.length < n + i → r6_same_l1 m m n i = some true := by
  intro n
  induction n with
  | zero => intro i h1 h2; omega
  | succ n ih =>
    intro i h1 h2
    have hb := hm.b
    unfold r6_same_l1
    split
    · rename_i h
      have h : i < m.Boxes.length := by omega
      rw [at_ok h, bS, bS, if_pos (by simp [andL]), i64_ok (by omega), bS]
      exact ih (i + 1) (by omega) (by omega)
    · exact same_units m hm _ 0 (by omega) (by omega)
theorem same_refl (m : TModule) (hm : Small m) : r6_same m m = some true := by
  unfold r6_same
  rw [if_neg (by simp)]
  unfold r6_same_j1
  rw [if_neg (by simp)]
  exact same_boxes m hm _ 0 (by omega) (by omega)
/- one line -/
def line (bs : List TBoxInfo) (us : List TUnit) (ln : List UInt8) : Option (Bool × List TBoxInfo × List TUnit) :=
  Option.bind (s_pre ln [9]) fun r =>
  if r.2 = true then
    Option.bind (asm_instr r.1) fun q =>
    if q.2 = true ∧ 0 < us.length then
      Option.bind (at_ us ((us.length : Int) - 1)) fun x =>
      Option.bind (app x.Code [q.1]) fun l => some (true, bs, uset us l)
    else some (false, bs, us)
  else asm_head bs us ln
theorem read_step (n : Nat) (s : List UInt8) (i : Int) (us : List TUnit) (bs : List TBoxInfo) (hu : us.length ≤ 4294967296) : asm_read_l1 (n + 1) s i us bs =
    if s ≠ [] then Option.bind (s_cut s [10]) fun r =>
      if r.2.2 = true then Option.bind (line bs us r.1) fun q => if q.1 = true then Option.bind (i64 (i + 1)) fun i' => asm_read_l1 n r.2.1 i' q.2.2 q.2.1 else some (⟨[], []⟩, ⟨2, i⟩)
      else some (⟨[], []⟩, ⟨2, i⟩)
    else some (⟨bs, us⟩, ⟨0, 0⟩) := by
  rw [asm_read_l1]
  split
  · congr 1
    funext r
    split
    · unfold line
      cases h1 : s_pre r.1 [9] with
      | none => rfl
      | some q =>
        simp only [bS]
        split
        · cases h2 : asm_instr q.1 with
          | none => rfl
          | some p =>
            simp only [bS]
            by_cases h3 : p.2 = true
            · by_cases h4 : 0 < us.length
              · rw [if_pos h3, if_pos ⟨h3, h4⟩]
                unfold asm_read_j2
                rw [if_pos (by simpa using h4), i64_ok (by omega)]
                simp only [bS]
                cases h5 : at_ us ((us.length : Int) - 1) with
                | none => rfl
                | some x =>
                  simp only [bS]
                  cases h6 : app x.Code [p.1] with
                  | none => rfl
                  | some l =>
                    simp only [bS]
                    unfold asm_read_j3 asm_read_j1
                    rw [if_pos h3]
                    simp
              · rw [if_pos h3, if_neg (fun h => h4 h.2)]
                unfold asm_read_j2 asm_read_j1
                rw [if_neg (by simpa using h4)]
                simp
            · rw [if_neg h3, if_neg (fun h => h3 h.1)]
              unfold asm_read_j2 asm_read_j1
              simp
        · cases h2 : asm_head bs us r.1 with
          | none => rfl
          | some p =>
            simp only [bS]
            unfold asm_read_j1
            split <;> rfl
    · rename_i h
      unfold asm_read_j1
      rw [if_neg h]
  · rfl
theorem idx_app (c : UInt8) (t : List UInt8) : ∀ s : List UInt8, 0 ≤ Lib.index s [c] → Lib.index (s ++ t) [c] = Lib.index s [c]
  | [], h => by simp [Lib.index] at h
  | b :: l, h => by
    rw [List.cons_append]
    unfold Lib.index at h ⊢
    have e : [c].isPrefixOf (b :: (l ++ t)) = [c].isPrefixOf (b :: l) := by simp [List.isPrefixOf]
    rw [e]
    split
    · rfl
    · rename_i h1
      rw [if_neg h1] at h
      split at h
      · omega
      · rename_i h2
        have h3 := Lib.index_ge l [c]
        have h4 : 0 ≤ Lib.index l [c] := by simp at h2; omega
        rw [idx_app c t l h4]
theorem cut_app (c : UInt8) (s t a b : List UInt8) (h : Lib.cut s [c] = (a, b, true)) : Lib.cut (s ++ t) [c] = (a, b ++ t, true) ∧ b.length < s.length ∧ s ≠ [] := by
  unfold Lib.cut at h ⊢
  split at h
  · rename_i h0
    have hr := Lib.index_room s [c] h0
    simp only [Prod.mk.injEq, and_true] at h
    obtain ⟨rfl, rfl⟩ := h
    rw [idx_app c t s h0, if_pos h0]
    simp only [List.length_singleton] at hr ⊢
    refine ⟨?_, by simp; omega, by rintro rfl; simp [Lib.index] at h0⟩
    rw [List.take_append_of_le_length (by omega), List.drop_append_of_le_length (by omega)]
  · simp at h
theorem app_ok {α : Type} {l xs : List α} (h : l.length + xs.length ≤ 4294967296) : app l xs = some (l ++ xs) := if_pos h
/-- What a line's head does. -/
theorem head_what {bs bs' : List TBoxInfo} {us us' : List TUnit} {ln : List UInt8} {b : Bool} (h : asm_head bs us ln = some (b, bs', us')) :
    (b = false ∧ bs' = bs ∧ us' = us) ∨ (b = true ∧ us' = us ∧ ∃ x, bs' = bs ++ [x]) ∨ (b = true ∧ bs' = bs ∧ ∃ u : TUnit, u.Code = [] ∧ us' = us ++ [u] ∧ ∀ bs0 us0, us0.length < 4294967296 → asm_head bs0 us0 ln = some (true, bs0, us0 ++ [u])) := by
  unfold asm_head at h
  obtain ⟨l20, e1, h⟩ := bI h
  obtain ⟨l26, e2, h⟩ := bI h
  obtain ⟨r32, e3, h⟩ := bI h
  split at h
  · rename_i c1
    obtain ⟨x39, e4, h⟩ := bI h
    split at h
    · rename_i c2
      have key : ∀ q, asm_head_j1 bs us r32 q = some (b, bs', us') → (b = false ∧ bs' = bs ∧ us' = us) ∨ (b = true ∧ us' = us ∧ ∃ x, bs' = bs ++ [x]) := by
        intro q h
        unfold asm_head_j1 at h
        split at h
        · simp at h; obtain ⟨rfl, rfl, rfl⟩ := h; exact .inl ⟨rfl, rfl, rfl⟩
        · obtain ⟨x1, f1, h⟩ := bI h
          obtain ⟨x2, f2, h⟩ := bI h
          obtain ⟨l, f3, h⟩ := bI h
          obtain ⟨rfl, -⟩ := app_eq f3
          unfold asm_head_j2 at h
          simp at h
          obtain ⟨rfl, rfl, rfl⟩ := h
          exact .inr ⟨rfl, rfl, _, rfl⟩
      split at h
      · rcases key _ h with h | h
        · exact .inl h
        · exact .inr (.inl h)
      · rcases key _ h with h | h
        · exact .inl h
        · exact .inr (.inl h)
    · rename_i c2
      obtain ⟨x87, e5, h⟩ := bI h
      obtain rfl : x39 = x87 := Option.some.inj (e4.symm.trans e5)
      obtain ⟨r95, e6, h⟩ := bI h
      obtain ⟨r101, e7, h⟩ := bI h
      have key : ∀ q, asm_head_j4 bs us r32 r101 q = some (b, bs', us') → (b = false ∧ bs' = bs ∧ us' = us) ∨ (b = true ∧ bs' = bs ∧ ∃ u : TUnit, u.Code = [] ∧ us' = us ++ [u] ∧ ∀ bs0 us0, us0.length < 4294967296 → asm_head_j4 bs0 us0 r32 r101 q = some (true, bs0, us0 ++ [u])) := by
        intro q h
        unfold asm_head_j4 at h
        split at h
        · simp at h; obtain ⟨rfl, rfl, rfl⟩ := h; exact .inl ⟨rfl, rfl, rfl⟩
        · rename_i c4
          obtain ⟨x1, f1, h⟩ := bI h
          obtain ⟨x2, f2, h⟩ := bI h
          obtain ⟨x3, f3, h⟩ := bI h
          obtain ⟨x4, f4, h⟩ := bI h
          obtain ⟨x5, f5, h⟩ := bI h
          obtain ⟨l, f6, h⟩ := bI h
          obtain ⟨rfl, -⟩ := app_eq f6
          unfold asm_head_j5 at h
          simp at h
          obtain ⟨rfl, rfl, rfl⟩ := h
          refine .inr ⟨rfl, rfl, _, rfl, rfl, fun bs0 us0 hu => ?_⟩
          unfold asm_head_j4
          rw [if_neg c4, f1, bS, f2, bS, f3, bS, f4, bS, f5, bS, app_ok (by simp; omega), bS]
          rfl
      have back : ∀ bs0 us0, asm_head bs0 us0 ln = asm_head_j3 bs0 us0 r32 r101 := by
        intro bs0 us0
        unfold asm_head
        rw [e1, bS, e2, bS, e3, bS, if_pos c1, e4, bS, if_neg c2, bS, e6, bS, e7, bS]
      unfold asm_head_j3 at h
      by_cases c3 : r101 < 0
      · rw [if_pos c3] at h
        rcases key _ h with h | ⟨a1, a2, u, a3, a4, a5⟩
        · exact .inl h
        · refine .inr (.inr ⟨a1, a2, u, a3, a4, fun bs0 us0 hu => ?_⟩)
          rw [back]; unfold asm_head_j3; rw [if_pos c3]; exact a5 _ _ hu
      · rw [if_neg c3] at h
        rcases key _ h with h | ⟨a1, a2, u, a3, a4, a5⟩
        · exact .inl h
        · refine .inr (.inr ⟨a1, a2, u, a3, a4, fun bs0 us0 hu => ?_⟩)
          rw [back]; unfold asm_head_j3; rw [if_neg c3]; exact a5 _ _ hu
  · simp at h; obtain ⟨rfl, rfl, rfl⟩ := h; exact .inl ⟨rfl, rfl, rfl⟩

theorem at_last {us0 us : List TUnit} (h : 0 < us.length) : at_ (us0 ++ us) (((us0 ++ us).length : Int) - 1) = at_ us ((us.length : Int) - 1) := by
  unfold at_
  rw [if_pos (by simp; omega), if_pos (by omega)]
  rw [List.getElem?_append_right (by simp; omega)]
  congr 1
  simp; omega
theorem uset_behind {us0 us : List TUnit} {l : List TInstr} (h : us ≠ []) : uset (us0 ++ us) l = us0 ++ uset us l := by
  obtain ⟨init, x, rfl⟩ : ∃ init x, us = init ++ [x] := ⟨us.dropLast, us.getLast h, (List.dropLast_concat_getLast h).symm⟩
  rw [← List.append_assoc, uset_app, uset_app, List.append_assoc]
/-- A line of units does behind others what it does alone. -/
theorem line_shift {us us' : List TUnit} {ln : List UInt8} (h : line [] us ln = some (true, [], us')) : us.length ≤ us'.length ∧ us'.length ≤ us.length + 1 ∧ ∀ bs0 us0, us0.length + us.length < 4294967296 → line bs0 (us0 ++ us) ln = some (true, bs0, us0 ++ us') := by
  unfold line at h
  obtain ⟨r, e1, h⟩ := bI h
  split at h
  · rename_i c1
    obtain ⟨q, e2, h⟩ := bI h
    split at h
    · rename_i c2
      obtain ⟨x, e3, h⟩ := bI h
      obtain ⟨l, e4, h⟩ := bI h
      simp at h
      subst h
      have hne : us ≠ [] := fun e => by rw [e] at c2; simp at c2
      have hl : (uset us l).length = us.length := by
        obtain ⟨init, y, rfl⟩ : ∃ init y, us = init ++ [y] := ⟨us.dropLast, us.getLast hne, (List.dropLast_concat_getLast hne).symm⟩
        rw [uset_app]; simp
      refine ⟨by omega, by omega, fun bs0 us0 hu => ?_⟩
      unfold line
      rw [e1, bS, if_pos c1, e2, bS, if_pos ⟨c2.1, by simp; omega⟩, at_last c2.2, e3, bS, e4, bS, uset_behind hne]
    · simp at h
  · rename_i c1
    rcases head_what h with ⟨h1, -⟩ | ⟨-, -, x, hx⟩ | ⟨-, -, u, -, rfl, hk⟩
    · cases h1
    · simp at hx
    · refine ⟨by simp, by simp, fun bs0 us0 hu => ?_⟩
      unfold line
      rw [e1, bS, if_neg c1, hk bs0 (us0 ++ us) (by simp; omega), List.append_assoc]
/-- Boxes only come. -/
theorem line_boxes {bs bs' : List TBoxInfo} {us us' : List TUnit} {ln : List UInt8} {b : Bool} (h : line bs us ln = some (b, bs', us')) : ∃ l, bs' = bs ++ l := by
  unfold line at h
  obtain ⟨r, e1, h⟩ := bI h
  split at h
  · obtain ⟨q, e2, h⟩ := bI h
    split at h
    · obtain ⟨x, e3, h⟩ := bI h
      obtain ⟨l, e4, h⟩ := bI h
      simp at h
      obtain ⟨-, rfl, -⟩ := h
      exact ⟨[], by simp⟩
    · simp at h
      obtain ⟨-, rfl, -⟩ := h
      exact ⟨[], by simp⟩
  · rcases head_what h with ⟨-, rfl, -⟩ | ⟨-, -, x, rfl⟩ | ⟨-, rfl, -⟩
    · exact ⟨[], by simp⟩
    · exact ⟨[x], rfl⟩
    · exact ⟨[], by simp⟩
theorem pieces_le (sep : List UInt8) : ∀ (k : Nat) (s : List UInt8), ∀ x ∈ Lib.splitK sep 0 k s, x.length ≤ s.length
  | 0, s, x, h => by simp [Lib.splitK] at h; subst h; exact Nat.le_refl _
  | k + 1, s, x, h => by
    rw [Lib.splitK] at h
    split at h
    · simp at h; subst h; exact Nat.le_refl _
    · rcases List.mem_cons.1 h with rfl | h
      · simp; omega
      · exact Nat.le_trans (pieces_le sep k _ x h) (by simp)
theorem pieces_ne (sep : List UInt8) (k : Nat) (s : List UInt8) : Lib.splitK sep 0 k s ≠ [] := by
  cases k with
  | zero => simp [Lib.splitK]
  | succ k => rw [Lib.splitK]; split <;> simp
theorem pieces_len (sep : List UInt8) : ∀ (k : Nat) (s : List UInt8), (Lib.splitK sep 0 k s).length ≤ k + 1
  | 0, s => by simp [Lib.splitK]
  | k + 1, s => by
    rw [Lib.splitK]
    split
    · simp
    · have := pieces_len sep k (s.drop ((Lib.index s sep).toNat + sep.length))
      simp; omega
theorem split_some {a : List UInt8} {c : UInt8} (h : a.length ≤ 60000) : ∃ l, s_split a [c] = some l ∧ l ≠ [] ∧ l.length ≤ 60002 ∧ ∀ x ∈ l, x.length ≤ 60000 := by
  refine ⟨Lib.splitK [c] 0 (Lib.count a [c]) a, ?_, pieces_ne _ _ _, ?_, fun x hx => Nat.le_trans (pieces_le _ _ _ x hx) h⟩
  · unfold s_split
    rw [if_pos ⟨by omega, by simp⟩, Lib.splitB_data]
  · have := pieces_len [c] (Lib.count a [c]) a
    have := Lib.count_le a [c]
    omega
theorem number_some {a : List UInt8} (h : a.length ≤ 60000) : ∃ r, asm_number a = some r := by
  unfold asm_number
  rw [if_pos (by omega)]
  exact ⟨_, rfl⟩
theorem numbers_l_some (l : List (List UInt8)) (hl : l.length ≤ 60002) (hx : ∀ x ∈ l, x.length ≤ 60000) : ∀ (n i : Nat) (out : List Int), i ≤ l.length → l.length < n + i → out.length = i → ∃ r, asm_numbers_l1 l n i out = some r ∧ r.1.length ≤ 60002 := by
  intro n
  induction n with
  | zero => intro i out h1 h2; omega
  | succ n ih =>
    intro i out h1 h2 h3
    unfold asm_numbers_l1
    split
    · rename_i h
      have h : i < l.length := by omega
      obtain ⟨r, hr⟩ := number_some (hx _ (List.getElem_mem h))
      rw [at_ok h, bS, hr, bS]
      split
      · rw [app_ok (by simp; omega), bS, i64_ok (by omega), bS]
        exact ih (i + 1) _ (by omega) (by omega) (by simp; omega)
      · exact ⟨_, rfl, by simp⟩
    · exact ⟨_, rfl, by simp; omega⟩
theorem numbers_some {l : List (List UInt8)} (hl : l.length ≤ 60002) (hx : ∀ x ∈ l, x.length ≤ 60000) : ∃ r, asm_numbers l = some r ∧ r.1.length ≤ 60002 :=
  numbers_l_some l hl hx (l.length + 1) 0 [] (by omega) (by omega) rfl
theorem idx_range (x : ByteArray) : ∀ (zs : List ByteArray) (i : Nat), -1 ≤ Lib.idxFromS zs x i ∧ Lib.idxFromS zs x i < i + zs.length
  | [], i => by simp [Lib.idxFromS]; omega
  | z :: zs, i => by
    rw [Lib.idxFromS]
    split
    · simp; omega
    · have := idx_range x zs (i + 1)
      simp; omega
theorem sidx_some (l : List (List UInt8)) (x : List UInt8) : ∃ r, s_idx l x = some r ∧ -1 ≤ r ∧ r < l.length := by
  refine ⟨_, rfl, ?_⟩
  have := idx_range ⟨⟨x⟩⟩ (l.map fun y => ⟨⟨y⟩⟩) 0
  simpa [Lib.idxOfS] using this
theorem has_j1_some (i : Int) (b : Bool) : ∃ r, asm_has_j1 i b = some r := by
  unfold asm_has_j1
  split <;> exact ⟨_, rfl⟩
theorem has_some (i : Int) : ∃ r, asm_has i = some r := by
  unfold asm_has
  repeat' split
  all_goals exact has_j1_some _ _
theorem instr_some {a : List UInt8} (h : a.length ≤ 60000) : ∃ r, asm_instr a = some r := by
  obtain ⟨l, e1, hne, hl, hx⟩ := split_some (c := 32) h
  have hpos : 0 < l.length := List.length_pos_iff.2 hne
  unfold asm_instr
  have e2 : at_ l 0 = some l[0] := at_ok (i := 0) hpos
  rw [e1, bS, e2, bS]
  unfold asm_mnem
  rw [bS]
  obtain ⟨r, e3, h1, h2⟩ := sidx_some [[112, 117, 115, 104], [116, 114, 117, 116, 104], [108, 111, 97, 100], [115, 116, 111, 114, 101], [100, 114, 111, 112], [110, 101, 103], [110, 111, 116], [97, 100, 100], [115, 117, 98], [109, 117, 108], [100, 105, 118], [109, 111, 100], [101, 113], [110, 101], [108, 116], [108, 101], [103, 116], [103, 101], [97, 110, 100], [111, 114], [106, 117, 109, 112], [101, 108, 115, 101], [99, 97, 108, 108], [114, 101, 116], [101, 110, 100], [115, 101, 110, 100], [114, 101, 99, 118], [111, 117, 116], [115, 116, 97, 114, 116], [114, 101, 115, 117, 109, 101], [121, 105, 101, 108, 100], [97, 108, 105, 118, 101]] l[0]
  simp only [List.length_cons, List.length_nil] at h2
  rw [e3, bS, i64_ok (by omega), bS]
  unfold asm_instr_j1
  obtain ⟨q, hq⟩ := has_some (r + 1)
  rw [hq, bS]
  have j5 : ∀ a b c d, ∃ r, asm_instr_j5 a b c d = some r := fun a b c d => ⟨_, rfl⟩
  have j4 : ∀ w b, (b = true ∨ w = 1 ∨ 2 ≤ l.length) → ∃ r', asm_instr_j4 l (r + 1) q w b = some r' := by
    intro w b hw
    unfold asm_instr_j4
    split
    · exact ⟨_, rfl⟩
    · split
      · exact ⟨_, rfl⟩
      · rename_i c1 c2
        have h2 : 1 < l.length := by
          rcases hw with h | h | h
          · exact absurd h c1
          · exact absurd h c2
          · omega
        obtain ⟨v, hv⟩ := number_some (hx _ (List.getElem_mem h2))
        have e4 : at_ l 1 = some l[1] := at_ok (i := 1) h2
        rw [e4, bS, hv, bS]
        split <;> exact j5 _ _ _ _
  have j3 : ∀ w, (w = 1 ∨ w = 2) → ∃ r', asm_instr_j3 l (r + 1) q w = some r' := by
    intro w hw
    unfold asm_instr_j3
    split
    · exact j4 _ _ (.inl rfl)
    · refine j4 _ _ ?_
      rcases hw with rfl | rfl
      · exact .inr (.inl rfl)
      · by_cases hl2 : (l.length : Int) = 2
        · exact .inr (.inr (by omega))
        · exact .inl (by simpa using hl2)
  have j2 : ∀ b, ∃ r', asm_instr_j2 l (r + 1) q b = some r' := by
    intro b
    unfold asm_instr_j2
    split
    · exact j3 _ (.inr rfl)
    · exact j3 _ (.inl rfl)
  split <;> exact j2 _
structure Inv (k : Nat) (bs : List TBoxInfo) (us : List TUnit) : Prop where
  b : bs.length ≤ k
  u : us.length ≤ k
  e : ∀ x ∈ us, x.Code.length ≤ k ∧ x.Locals.length ≤ 60002
theorem Inv.mono {k k' : Nat} {bs : List TBoxInfo} {us : List TUnit} (h : Inv k bs us) (hk : k ≤ k') : Inv k' bs us :=
  ⟨by have := h.b; omega, by have := h.u; omega, fun x hx => by have := h.e x hx; omega⟩
theorem cut_ok {α : Type} {l : List α} {i j : Int} (h : 0 ≤ i ∧ i ≤ j ∧ j ≤ l.length) : cut l i j = some ((l.take j.toNat).drop i.toNat) := if_pos h
theorem head_some {k : Nat} {bs : List TBoxInfo} {us : List TUnit} {ln : List UInt8} (hI : Inv k bs us) (hk : k ≤ 60000) (h : ln.length ≤ 60000) : ∃ b bs' us', asm_head bs us ln = some (b, bs', us') ∧ Inv (k + 1) bs' us' := by
  obtain ⟨l, e1, hne, hl, hx⟩ := split_some (c := 32) h
  have hpos : 0 < l.length := List.length_pos_iff.2 hne
  have hb := hI.b
  have hu := hI.u
  have stay : Inv (k + 1) bs us := hI.mono (by omega)
  unfold asm_head
  rw [e1, bS, cut_ok (by omega), bS]
  obtain ⟨r, e2, hr⟩ := numbers_some (l := (l.take (l.length : Int).toNat).drop (1 : Int).toNat) (by simp; omega) (fun x hx' => hx x (List.mem_of_mem_take (List.mem_of_mem_drop hx')))
  rw [e2, bS]
  split
  · have e3 : at_ l 0 = some l[0] := at_ok (i := 0) hpos
    rw [e3, bS]
    split
    · have j1 : ∀ b, (b = true ∨ (r.1.length : Int) = 2) → ∃ b' bs' us', asm_head_j1 bs us r b = some (b', bs', us') ∧ Inv (k + 1) bs' us' := by
        intro b hb'
        unfold asm_head_j1
        split
        · exact ⟨_, _, _, rfl, stay⟩
        · rename_i c
          have h2 : r.1.length = 2 := by rcases hb' with h | h; exact absurd h c; omega
          have f1 : at_ r.1 0 = some r.1[0] := at_ok (i := 0) (by omega)
          have f2 : at_ r.1 1 = some r.1[1] := at_ok (i := 1) (by omega)
          rw [f1, bS, f2, bS, app_ok (by simp; omega), bS]
          exact ⟨_, _, _, rfl, ⟨by simp; omega, by omega, stay.e⟩⟩
      split
      · exact j1 _ (.inl rfl)
      · rename_i c; exact j1 _ (.inr (by omega))
    · rw [bS]
      unfold asm_units
      rw [bS]
      obtain ⟨q, e4, h1, h2⟩ := sidx_some [[102, 110], [103, 101, 110], [116, 97, 115, 107]] l[0]
      simp only [List.length_cons, List.length_nil] at h2
      rw [e4, bS]
      have j4 : ∀ b, (b = true ∨ 3 ≤ r.1.length) → ∃ b' bs' us', asm_head_j4 bs us r q b = some (b', bs', us') ∧ Inv (k + 1) bs' us' := by
        intro b hb'
        unfold asm_head_j4
        split
        · exact ⟨_, _, _, rfl, stay⟩
        · rename_i c
          have h2 : 3 ≤ r.1.length := by rcases hb' with h | h; exact absurd h c; exact h
          have f1 : at_ r.1 0 = some r.1[0] := at_ok (i := 0) (by omega)
          have f2 : at_ r.1 1 = some r.1[1] := at_ok (i := 1) (by omega)
          have f3 : at_ r.1 2 = some r.1[2] := at_ok (i := 2) (by omega)
          rw [i64_ok (by omega), bS, f1, bS, f2, bS, f3, bS, cut_ok (by omega), bS, app_ok (by simp; omega), bS]
          refine ⟨_, _, _, rfl, ⟨by omega, by simp; omega, fun x hx => ?_⟩⟩
          rcases List.mem_append.1 hx with hx | hx
          · exact stay.e x hx
          · simp at hx; subst hx; simp; omega
      unfold asm_head_j3
      split
      · exact j4 _ (.inl rfl)
      · by_cases h3 : 3 ≤ r.1.length
        · exact j4 _ (.inr h3)
        · exact j4 _ (.inl (by simp; omega))
  · exact ⟨_, _, _, rfl, stay⟩
theorem line_some {k : Nat} {bs : List TBoxInfo} {us : List TUnit} {ln : List UInt8} (hI : Inv k bs us) (hk : k ≤ 60000) (h : ln.length ≤ 60000) : ∃ b bs' us', line bs us ln = some (b, bs', us') ∧ Inv (k + 1) bs' us' := by
  have stay : Inv (k + 1) bs us := hI.mono (by omega)
  unfold line
  unfold s_pre
  rw [bS]
  split
  · have hp : (Lib.trimPrefix ln [9]).length ≤ 60000 := by
      unfold Lib.trimPrefix; split <;> first | exact h | (simp; omega)
    obtain ⟨q, hq⟩ := instr_some hp
    rw [hq, bS]
    split
    · rename_i c
      have hu := hI.u
      have hne : us ≠ [] := fun e => by rw [e] at c; simp at c
      obtain ⟨init, x, rfl⟩ : ∃ init x, us = init ++ [x] := ⟨us.dropLast, us.getLast hne, (List.dropLast_concat_getLast hne).symm⟩
      have hx := hI.e x (by simp)
      have e1 : at_ (init ++ [x]) (((init ++ [x]).length : Int) - 1) = some x := by
        rw [show (((init ++ [x]).length : Int) - 1) = (init.length : Int) by simp, at_ok (by simp)]
        simp
      rw [e1, bS, app_ok (by simp; omega), bS, uset_app]
      refine ⟨_, _, _, rfl, ⟨stay.b, by simpa using stay.u, fun y hy => ?_⟩⟩
      rcases List.mem_append.1 hy with hy | hy
      · exact stay.e y (by simp [hy])
      · simp at hy; subst hy
        show (x.Code ++ [q.1]).length ≤ k + 1 ∧ x.Locals.length ≤ 60002
        simp; omega
    · exact ⟨_, _, _, rfl, stay⟩
  · exact head_some hI hk h
theorem cut_some {s : List UInt8} (h : s.length ≤ 60000) : s_cut s [10] = some (Lib.cut s [10]) := if_pos (by omega)
theorem cut_small {s : List UInt8} : (Lib.cut s [10]).1.length ≤ s.length := by
  unfold Lib.cut
  split
  · simp; omega
  · exact Nat.le_refl _
/-- Read answers; what is read is small; fuel above the text's length changes nothing. -/
theorem read_some : ∀ (n : Nat) (s : List UInt8) (k : Nat) (us : List TUnit) (bs : List TBoxInfo), s.length < n → Inv k bs us → k + s.length ≤ 60000 →
    ∃ m f, asm_read_l1 n s k us bs = some (m, f) ∧ Inv 60000 m.Boxes m.Units ∧ (f.Err = 0 ∨ f.Err = 2) ∧ (∀ n', n ≤ n' → asm_read_l1 n' s k us bs = some (m, f)) := by
  intro n
  induction n with
  | zero => intro s k us bs h; omega
  | succ n ih =>
    intro s k us bs h1 hI h2
    have hu := hI.u
    by_cases hs : s = []
    · refine ⟨⟨bs, us⟩, ⟨0, 0⟩, ?_, hI.mono (by omega), .inl rfl, ?_⟩
      · rw [read_step _ _ _ _ _ (by omega), if_neg (by simpa using hs)]
      · intro n' hn
        obtain ⟨n', rfl⟩ : ∃ q, n' = q + 1 := ⟨n' - 1, by omega⟩
        rw [read_step _ _ _ _ _ (by omega), if_neg (by simpa using hs)]
    · rcases hcut : Lib.cut s [10] with ⟨a, b, c⟩
      have ha : a.length ≤ s.length := by have := cut_small (s := s); rw [hcut] at this; exact this
      have nil : Inv 60000 [] [] := ⟨by simp, by simp, by simp⟩
      cases c with
      | false =>
        refine ⟨⟨[], []⟩, ⟨2, k⟩, ?_, nil, .inr rfl, ?_⟩
        · rw [read_step _ _ _ _ _ (by omega), if_pos hs, cut_some (by omega), bS, hcut]; rfl
        · intro n' hn
          obtain ⟨n', rfl⟩ : ∃ q, n' = q + 1 := ⟨n' - 1, by omega⟩
          rw [read_step _ _ _ _ _ (by omega), if_pos hs, cut_some (by omega), bS, hcut]; rfl
      | true =>
        obtain ⟨-, hb, -⟩ := cut_app 10 s [] a b hcut
        obtain ⟨ok, bs', us', e, hI'⟩ := line_some (ln := a) hI (by omega) (by omega)
        cases ok with
        | false =>
          refine ⟨⟨[], []⟩, ⟨2, k⟩, ?_, nil, .inr rfl, ?_⟩
          · rw [read_step _ _ _ _ _ (by omega), if_pos hs, cut_some (by omega), bS, hcut, if_pos rfl, e, bS]; rfl
          · intro n' hn
            obtain ⟨n', rfl⟩ : ∃ q, n' = q + 1 := ⟨n' - 1, by omega⟩
            rw [read_step _ _ _ _ _ (by omega), if_pos hs, cut_some (by omega), bS, hcut, if_pos rfl, e, bS]; rfl
        | true =>
          obtain ⟨m, f, e1, e2, e3, e4⟩ := ih b (k + 1) us' bs' (by omega) hI' (by omega)
          have st : ∀ q, asm_read_l1 (q + 1) s k us bs = asm_read_l1 q b (k + 1 : Nat) us' bs' := fun q => by
            rw [read_step _ _ _ _ _ (by omega), if_pos hs, cut_some (by omega), bS, hcut, if_pos rfl, e, bS, if_pos rfl, i64_ok (by omega), bS]
            rfl
          refine ⟨m, f, by rw [st]; exact e1, e2, e3, ?_⟩
          intro n' hn
          obtain ⟨n', rfl⟩ : ∃ q, n' = q + 1 := ⟨n' - 1, by omega⟩
          rw [st]
          exact e4 n' (by omega)
/-- A text that is read goes on at what stands behind it. -/
theorem read_on : ∀ (n : Nat) (s : List UInt8) (k : Nat) (us : List TUnit) (bs : List TBoxInfo) (m : TModule) (f : TFault), Inv k bs us → k + s.length ≤ 60000 → asm_read_l1 n s k us bs = some (m, f) → f.Err = 0 →
    ∃ j, j ≤ s.length ∧ f = ⟨0, 0⟩ ∧ ∀ (q : Nat) (t : List UInt8), s.length + t.length ≤ 60000 → asm_read_l1 (q + j) (s ++ t) k us bs = asm_read_l1 q t ((k + j : Nat) : Int) m.Units m.Boxes := by
  intro n
  induction n with
  | zero => intro s k us bs m f hI h2 h; cases h
  | succ n ih =>
    intro s k us bs m f hI h2 h hf
    have hu := hI.u
    rw [read_step _ _ _ _ _ (by omega)] at h
    by_cases hs : s = []
    · subst hs
      rw [if_neg (by simp)] at h
      simp at h
      obtain ⟨rfl, rfl⟩ := h
      exact ⟨0, by simp, rfl, fun q t _ => by simp⟩
    · rw [if_pos hs, cut_some (by omega), bS] at h
      rcases hcut : Lib.cut s [10] with ⟨a, b, c⟩
      have ha : a.length ≤ s.length := by have := cut_small (s := s); rw [hcut] at this; exact this
      rw [hcut] at h
      cases c with
      | false => simp at h; obtain ⟨rfl, rfl⟩ := h; simp at hf
      | true =>
        obtain ⟨-, hb, -⟩ := cut_app 10 s [] a b hcut
        obtain ⟨ok, bs', us', e, hI'⟩ := line_some (ln := a) hI (by omega) (by omega)
        rw [if_pos rfl, e, bS] at h
        cases ok with
        | false => simp at h; obtain ⟨rfl, rfl⟩ := h; simp at hf
        | true =>
          rw [if_pos rfl, i64_ok (by omega), bS] at h
          obtain ⟨j, h3, h4, h5⟩ := ih b (k + 1) us' bs' m f hI' (by omega) h hf
          refine ⟨j + 1, by omega, h4, fun q t ht => ?_⟩
          obtain ⟨hc, -, -⟩ := cut_app 10 s t a b hcut
          rw [← Nat.add_assoc, read_step _ _ _ _ _ (by omega), if_pos (by simp [hs]), cut_some (by simp; omega), bS, hc, if_pos rfl, e, bS, if_pos rfl, i64_ok (by omega), bS]
          have := h5 q t (by omega)
          rw [show ((k + (j + 1) : Nat) : Int) = ((k + 1 + j : Nat) : Int) by omega]
          exact this
theorem read_boxes : ∀ (n : Nat) (s : List UInt8) (k : Nat) (us : List TUnit) (bs : List TBoxInfo) (m : TModule) (f : TFault), Inv k bs us → k + s.length ≤ 60000 → asm_read_l1 n s k us bs = some (m, f) → f.Err = 0 → ∃ l, m.Boxes = bs ++ l := by
  intro n
  induction n with
  | zero => intro s k us bs m f hI h2 h; cases h
  | succ n ih =>
    intro s k us bs m f hI h2 h hf
    have hu := hI.u
    rw [read_step _ _ _ _ _ (by omega)] at h
    by_cases hs : s = []
    · subst hs
      rw [if_neg (by simp)] at h
      simp at h
      obtain ⟨rfl, rfl⟩ := h
      exact ⟨[], by simp⟩
    · rw [if_pos hs, cut_some (by omega), bS] at h
      rcases hcut : Lib.cut s [10] with ⟨a, b, c⟩
      have ha : a.length ≤ s.length := by have := cut_small (s := s); rw [hcut] at this; exact this
      rw [hcut] at h
      cases c with
      | false => simp at h; obtain ⟨rfl, rfl⟩ := h; simp at hf
      | true =>
        obtain ⟨-, hb, -⟩ := cut_app 10 s [] a b hcut
        obtain ⟨ok, bs', us', e, hI'⟩ := line_some (ln := a) hI (by omega) (by omega)
        rw [if_pos rfl, e, bS] at h
        cases ok with
        | false => simp at h; obtain ⟨rfl, rfl⟩ := h; simp at hf
        | true =>
          rw [if_pos rfl, i64_ok (by omega), bS] at h
          obtain ⟨l, hl⟩ := ih b (k + 1) us' bs' m f hI' (by omega) h hf
          obtain ⟨l', rfl⟩ := line_boxes e
          exact ⟨l' ++ l, by rw [hl, List.append_assoc]⟩
/-- Units alone are read behind others as they are read alone. -/
theorem read_shift : ∀ (n : Nat) (t : List UInt8) (k : Nat) (us : List TUnit) (m : TModule) (f : TFault), Inv k [] us → k + t.length ≤ 60000 → asm_read_l1 n t k us [] = some (m, f) → f.Err = 0 → m.Boxes = [] →
    ∀ (k' : Nat) (bs0 : List TBoxInfo) (us0 : List TUnit), us0.length ≤ 60000 → k' + t.length ≤ 4294967296 → asm_read_l1 n t k' (us0 ++ us) bs0 = some (⟨bs0, us0 ++ m.Units⟩, ⟨0, 0⟩) := by
  intro n
  induction n with
  | zero => intro t k us m f hI h2 h; cases h
  | succ n ih =>
    intro t k us m f hI h2 h hf hm k' bs0 us0 h0 hk'
    have hu := hI.u
    rw [read_step _ _ _ _ _ (by omega)] at h
    rw [read_step _ _ _ _ _ (by simp; omega)]
    by_cases hs : t = []
    · subst hs
      rw [if_neg (by simp)] at h ⊢
      simp at h
      obtain ⟨rfl, rfl⟩ := h
      rfl
    · rw [if_pos hs, cut_some (by omega), bS] at h ⊢
      rcases hcut : Lib.cut t [10] with ⟨a, b, c⟩
      rw [hcut] at h
      cases c with
      | false => simp at h; obtain ⟨rfl, rfl⟩ := h; simp at hf
      | true =>
        obtain ⟨-, hb, -⟩ := cut_app 10 t [] a b hcut
        rw [if_pos rfl] at h ⊢
        obtain ⟨⟨ok, bs', us'⟩, e, h⟩ := bI h
        cases ok with
        | false => simp at h; obtain ⟨rfl, rfl⟩ := h; simp at hf
        | true =>
          rw [if_pos rfl, i64_ok (by omega), bS] at h
          have ha : a.length ≤ t.length := by have := cut_small (s := t); rw [hcut] at this; exact this
          obtain ⟨ok2, bs2, us2, e', hI'⟩ := line_some (ln := a) hI (by omega) (by omega)
          obtain ⟨rfl, rfl, rfl⟩ : ok2 = true ∧ bs2 = bs' ∧ us2 = us' := by rw [e] at e'; simp at e'; exact ⟨e'.1, e'.2.1.symm, e'.2.2.symm⟩
          obtain ⟨l, hl⟩ := read_boxes n b (k + 1) _ _ m f hI' (by omega) h hf
          rw [hm] at hl
          obtain rfl : bs2 = [] := by cases bs2 with | nil => rfl | cons x y => simp at hl
          obtain ⟨g1, g2, g3⟩ := line_shift e
          rw [g3 bs0 us0 (by omega), bS, if_pos rfl, i64_ok (by omega), bS]
          exact ih b (k + 1) _ m f hI' (by omega) h hf hm (k' + 1) bs0 us0 h0 (by omega)
theorem inv0 : Inv 0 [] [] := ⟨by simp, by simp, by simp⟩
theorem alive_40 : asm_alive 40 = some true := by decide +kernel
/-- What is read of any text. -/
theorem read_any (fu : Nat) (hfu : 60001 ≤ fu) (s : List UInt8) : ∃ m f, asm_read fu s = some (m, f) ∧ Inv 60000 m.Boxes m.Units ∧ (f.Err = 0 → s.length ≤ 60000 ∧ asm_read_l1 fu s 0 [] [] = some (m, f)) := by
  unfold asm_read
  split
  · exact ⟨_, _, rfl, ⟨by simp, by simp, by simp⟩, fun h => by simp at h⟩
  · rename_i h
    obtain ⟨m, f, e1, e2, e3, e4⟩ := read_some fu s 0 [] [] (by omega) inv0 (by omega)
    exact ⟨m, f, e1, e2, fun _ => ⟨by omega, e1⟩⟩
theorem alive_true (fu : Nat) (hfu : 60001 ≤ fu) : asm_alive fu = some true := by
  have h40 := alive_40
  unfold asm_alive at h40 ⊢
  rw [← h40]
  congr 1
  unfold asm_read
  rw [if_neg (by decide), if_neg (by decide)]
  obtain ⟨m, f, e1, e2, e3, e4⟩ := read_some 40 [98, 111, 120, 32, 49, 32, 50, 10, 116, 97, 115, 107, 32, 48, 32, 48, 32, 48, 32, 49, 10, 9, 112, 117, 115, 104, 32, 45, 55, 10, 9, 101, 110, 100, 10] 0 [] [] (by decide) inv0 (by decide)
  have e1' := e1
  have := e4 fu (by omega)
  rw [show ((0 : Nat) : Int) = 0 from rfl] at this e1'
  rw [this, e1']
theorem joined (fu : Nat) (hfu : 60001 ≤ fu) (s t : List UInt8) (hs : s.length ≤ 140737488355328) (ht : t.length ≤ 140737488355328) : asm_joined fu s t = some true := by
  unfold asm_joined
  rw [alive_true fu hfu, bS, if_pos rfl]
  obtain ⟨a, f, ea, ia, ka⟩ := read_any fu hfu s
  obtain ⟨b, g, eb, ib, kb⟩ := read_any fu hfu t
  rw [ea, bS, eb, bS]
  by_cases hf : f.Err = 0
  · rw [if_neg (by simpa using hf)]
    by_cases hg : g.Err = 0
    · rw [if_neg (by simpa using hg)]
      obtain ⟨hsl, ra⟩ := ka hf
      obtain ⟨htl, rb⟩ := kb hg
      by_cases hb : (0 : Int) < (b.Boxes.length : Int)
      · rw [if_pos hb]; rfl
      · rw [if_neg hb, i64_ok (by omega), bS]
        have hbn : b.Boxes = [] := List.eq_nil_of_length_eq_zero (by omega)
        by_cases hlen : (60000 : Int) < (s.length : Int) + (t.length : Int)
        · unfold asm_joined_j1; rw [if_pos (by simpa using hlen)]
        · unfold asm_joined_j1
          rw [if_neg (by simpa using hlen)]
          have hcat : cat s t = some (s ++ t) := if_pos (by omega)
          rw [hcat, bS]
          obtain ⟨j, hj, hf0, hon⟩ := read_on fu s 0 [] [] a f inv0 (by omega) ra hf
          obtain ⟨m1, f1, q1, q2, q3, q4⟩ := read_some (t.length + 1) t 0 [] [] (by omega) inv0 (by omega)
          have rb' : asm_read_l1 (fu - j) t 0 [] [] = some (b, g) := by
            have h1 := q4 fu (by omega)
            have h2 := q4 (fu - j) (by omega)
            rw [show ((0 : Nat) : Int) = 0 from rfl] at h1 h2
            rw [rb] at h1
            rw [h2]; exact h1.symm
          have sh := read_shift (fu - j) t 0 [] b g inv0 (by omega) rb' hg hbn j a.Boxes a.Units ia.u (by omega)
          have hfin : asm_read fu (s ++ t) = some (⟨a.Boxes, a.Units ++ b.Units⟩, ⟨0, 0⟩) := by
            unfold asm_read
            rw [if_neg (by simp; omega)]
            have := hon (fu - j) t (by omega)
            rw [show ((0 : Nat) : Int) = 0 from rfl, show fu - j + j = fu by omega] at this
            rw [this]
            simpa using sh
          rw [hfin, bS, if_pos rfl, app_ok (by simp; have := ia.u; omega), bS, app_ok (by simp; have := ia.u; have := ib.u; omega), bS]
          have iu := ia.u
          have iu' := ib.u
          have ibx := ia.b
          rw [List.nil_append, same_refl ⟨a.Boxes, a.Units ++ b.Units⟩ ⟨by simp; omega, by simp; omega, fun x hx => by
            rcases List.mem_append.1 hx with hx | hx
            · have := ia.e x hx; omega
            · have := ib.e x hx; omega⟩, bS]
    · rw [if_pos hg]; rfl
  · rw [if_pos hf]; rfl
end Go.Y
