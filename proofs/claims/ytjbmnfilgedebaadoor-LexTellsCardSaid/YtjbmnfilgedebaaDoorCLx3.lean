/- Names and reserved words, in plain. -/
import Derived.Test.YtjbmnfilgedebaaDoorCLx2
import Derived.Lib.IndexMore
set_option linter.unusedVariables false
set_option linter.unusedSimpArgs false
namespace Go.Lx
def reserved : List (List UInt8) := [[98, 111, 120], [102, 110], [103, 101, 110], [116, 97, 115, 107], [116, 97, 107, 101, 115], [121, 105, 101, 108, 100, 115], [108, 101, 116], [105, 102], [101, 108, 115, 101], [119, 104, 105, 108, 101], [114, 101, 116, 117, 114, 110], [115, 116, 111, 112], [115, 101, 110, 100], [111, 117, 116], [100, 111], [114, 101, 99, 118], [121, 105, 101, 108, 100], [115, 116, 97, 114, 116], [114, 101, 115, 117, 109, 101], [97, 108, 105, 118, 101], [110, 117, 109], [98, 111, 111, 108], [116, 114, 117, 101], [102, 97, 108, 115, 101], [97, 110, 100], [111, 114], [110, 111, 116]]
def hay : List UInt8 := [32, 98, 111, 120, 32, 102, 110, 32, 103, 101, 110, 32, 116, 97, 115, 107, 32, 116, 97, 107, 101, 115, 32, 121, 105, 101, 108, 100, 115, 32, 108, 101, 116, 32, 105, 102, 32, 101, 108, 115, 101, 32, 119, 104, 105, 108, 101, 32, 114, 101, 116, 117, 114, 110, 32, 115, 116, 111, 112, 32, 115, 101, 110, 100, 32, 111, 117, 116, 32, 100, 111, 32, 114, 101, 99, 118, 32, 121, 105, 101, 108, 100, 32, 115, 116, 97, 114, 116, 32, 114, 101, 115, 117, 109, 101, 32, 97, 108, 105, 118, 101, 32, 110, 117, 109, 32, 98, 111, 111, 108, 32, 116, 114, 117, 101, 32, 102, 97, 108, 115, 101, 32, 97, 110, 100, 32, 111, 114, 32, 110, 111, 116, 32]
def named (l : List UInt8) : Bool := decide (0 < l.length) && decide (l.length ≤ 12) && (match l with | c :: _ => letterB c | [] => false) && l.all wordB && !reserved.contains l
def classB (c : UInt8) : Nat := if letterB c then 1 else if digitB c then 2 else if blankB c then 3 else if c.toNat = 35 then 4 else 5
def ones : List UInt8 := [60, 62, 61, 43, 45, 42, 47, 37, 40, 41, 123, 125, 44, 59]
theorem index_iff (sub : List UInt8) : ∀ s : List UInt8, 0 ≤ Lib.index s sub ↔ ∃ i, i ≤ s.length ∧ sub.isPrefixOf (s.drop i) = true := by
  intro s
  induction s with
  | nil =>
    simp only [Lib.index]
    cases sub with
    | nil => simp
    | cons a l => simp
  | cons b l ih =>
    simp only [Lib.index]
    by_cases h : sub.isPrefixOf (b :: l) = true
    · rw [if_pos h]
      exact ⟨fun _ => ⟨0, by simp, h⟩, fun _ => by omega⟩
    · rw [if_neg h]
      have e : (0 ≤ (if (Lib.index l sub == -1) = true then (-1 : Int) else Lib.index l sub + 1)) ↔ 0 ≤ Lib.index l sub := by
        by_cases h1 : Lib.index l sub = -1
        · simp [h1]
        · have h2 : (Lib.index l sub == -1) = false := by simpa using h1
          rw [h2]
          simp only [Bool.false_eq_true, if_false]
          have : -1 ≤ Lib.index l sub := by
            clear ih h1 h2 h
            induction l with
            | nil => simp only [Lib.index]; split <;> omega
            | cons c l ih2 =>
              simp only [Lib.index]
              split
              · omega
              · split
                · omega
                · have := ih2; omega
          omega
      rw [e, ih]
      constructor
      · rintro ⟨i, hi, hp⟩
        exact ⟨i + 1, by simpa using hi, by simpa using hp⟩
      · rintro ⟨i, hi, hp⟩
        cases i with
        | zero => exact absurd (by simpa using hp) h
        | succ i => exact ⟨i, by simpa using hi, by simpa using hp⟩
theorem hay_words : ∀ i, i < hay.length → (hay.drop i).head? = some 32 → ((hay.drop (i + 1)).takeWhile (fun c => c != 32)) ∈ reserved ∨ (hay.drop (i + 1)).takeWhile (fun c => c != 32) = [] := by decide +kernel
theorem hay_has : ∀ w ∈ reserved, Lib.contains hay (32 :: w ++ [32]) = true := by decide +kernel
theorem tw_stop (l r : List UInt8) (h : ∀ c ∈ l, c ≠ 32) : (l ++ 32 :: r).takeWhile (fun c => c != 32) = l := by
  induction l with
  | nil => simp
  | cons c l ih =>
    have hc := h c (by simp)
    rw [List.cons_append, List.takeWhile_cons]
    simp only [bne_iff_ne, ne_eq, hc, not_false_eq_true, if_true]
    rw [ih fun d hd => h d (by simp [hd])]
theorem hay_iff {l : List UInt8} (h0 : l ≠ []) (hw : ∀ c ∈ l, c ≠ 32) : Lib.contains hay (32 :: l ++ [32]) = reserved.contains l := by
  rw [Bool.eq_iff_iff]
  constructor
  · intro h
    have h1 := (index_iff _ _).1 (of_decide_eq_true h)
    obtain ⟨i, hi, hp⟩ := h1
    obtain ⟨r, hr⟩ := List.isPrefixOf_iff_prefix.1 hp
    have hi' : i < hay.length := by
      rcases Nat.lt_or_ge i hay.length with h | h
      · exact h
      · rw [List.drop_eq_nil_of_le h] at hr; simp at hr
    have e2 : hay.drop (i + 1) = l ++ 32 :: r := by
      have := congrArg List.tail hr
      simpa using this.symm
    have hh : (hay.drop i).head? = some 32 := by rw [← hr]; rfl
    rcases hay_words i hi' hh with h | h
    · rw [e2, tw_stop l r hw] at h
      simpa using h
    · rw [e2, tw_stop l r hw] at h
      exact absurd h h0
  · intro h
    exact hay_has l (by simpa using h)
theorem named_word {c : UInt8} {r : List UInt8} (h12 : (c :: r).length ≤ 12) (hc : letterB c = true) : named (c :: r) = ((c :: r).all wordB && !reserved.contains (c :: r)) := by
  simp only [List.length_cons] at h12
  simp [named, h12, hc]
theorem word_no {l : List UInt8} (h : l.all wordB = true) : ∀ c ∈ l, c ≠ 32 := by
  intro c hc e
  subst e
  exact absurd (List.all_eq_true.1 h 32 hc) (by decide)
theorem all_len (p : UInt8 → Bool) (l : List UInt8) : l.all p = decide ((l.takeWhile p).length = l.length) := by
  induction l with
  | nil => rfl
  | cons c l ih =>
    rw [List.all_cons, List.takeWhile_cons]
    cases h : p c with
    | false => simp
    | true => simp [ih]
theorem named_no {c : UInt8} {r : List UInt8} (h12 : (c :: r).length ≤ 12) (hc : letterB c = true) (h : Lib.contains hay (32 :: (c :: r) ++ [32]) = true) : named (c :: r) = false := by
  rw [named_word h12 hc]
  by_cases hw : (c :: r).all wordB = true
  · rw [hay_iff (by simp) (word_no hw)] at h
    rw [h]; simp
  · simp [hw]
theorem named_yes {c : UInt8} {r : List UInt8} (h12 : (c :: r).length ≤ 12) (hc : letterB c = true) (h : Lib.contains hay (32 :: (c :: r) ++ [32]) = false) : named (c :: r) = decide (((c :: r).takeWhile wordB).length = (c :: r).length) := by
  rw [named_word h12 hc, ← all_len]
  by_cases hw : (c :: r).all wordB = true
  · rw [hay_iff (by simp) (word_no hw)] at h
    rw [h]; simp
  · simp [hw]
/-- What the document's answer has seen of a name. -/
theorem named_bad {l : List UInt8} {k : Nat} {c : UInt8} (hc : l[k]? = some c) (hb : classB c ≠ 1 ∧ (classB c ≠ 2 ∨ k = 0)) : named l = false := by
  have h1 : letterB c = false := by
    have := hb.1
    unfold classB at this
    cases h : letterB c with
    | false => rfl
    | true => rw [h] at this; simp at this
  rcases Nat.eq_zero_or_pos k with h | h
  · subst h
    cases l with
    | nil => simp at hc
    | cons d r => simp at hc; subst hc; simp [named, h1]
  · have h2 : digitB c = false := by
      have := hb.2.resolve_right (by omega)
      unfold classB at this
      rw [h1] at this
      cases h : digitB c with
      | false => rfl
      | true => rw [h] at this; simp at this
    have hw : wordB c = false := by simp [wordB, h1, h2]
    have : l.all wordB = false := by
      rw [List.all_eq_false]
      exact ⟨c, List.mem_of_getElem? hc, by simp [hw]⟩
    simp [named, this]
/-- So far it may be a name. -/
def maybe (l : List UInt8) : Bool := (match l with | c :: _ => letterB c | [] => true) && l.all wordB
theorem maybe_go {l : List UInt8} {k : Nat} {c : UInt8} (hm : maybe (l.take k) = true) (hc : l[k]? = some c) (hb : classB c = 1 ∨ (classB c = 2 ∧ k ≠ 0)) : maybe (l.take (k + 1)) = true := by
  have hw : wordB c = true ∧ (k = 0 → letterB c = true) := by
    unfold classB at hb
    unfold wordB
    cases h : letterB c with
    | true => simp
    | false =>
      cases h2 : digitB c with
      | true => rw [h, h2] at hb; simp at hb; simp [hb]
      | false => rw [h, h2] at hb; simp at hb; split at hb <;> (try omega); split at hb <;> omega
  have hlt := (List.getElem?_eq_some_iff.1 hc).1
  unfold maybe at hm ⊢
  rw [List.take_add_one, hc]
  simp only [Bool.and_eq_true, List.all_append] at hm ⊢
  refine ⟨?_, hm.2, by simp [hw.1]⟩
  cases l with
  | nil => simp at hc
  | cons d r =>
    cases k with
    | zero => simp at hc ⊢; subst hc; exact hw.2 rfl
    | succ k => simpa using hm.1
theorem named_maybe {l : List UInt8} (h : maybe l = true) : named l = (decide (0 < l.length) && decide (l.length ≤ 12) && !reserved.contains l) := by
  unfold maybe at h
  simp only [Bool.and_eq_true] at h
  unfold named
  rw [h.2]
  cases l with
  | nil => rfl
  | cons c r => have h1 : letterB c = true := h.1; simp [h1]
theorem class_small {c : UInt8} (h : classB c = 1 ∨ classB c = 2) : c.toNat < 128 := by
  unfold classB letterB digitB at h
  simp only [Bool.or_eq_true, Bool.and_eq_true, decide_eq_true_eq, beq_iff_eq] at h
  split at h
  · omega
  · split at h
    · omega
    · split at h
      · omega
      · split at h <;> omega
end Go.Lx
