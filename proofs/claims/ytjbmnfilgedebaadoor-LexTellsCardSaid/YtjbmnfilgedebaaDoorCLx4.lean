/- How the document's answer goes through a text, in plain. -/
import Derived.Test.YtjbmnfilgedebaaDoorCLx3
set_option linter.unusedVariables false
set_option linter.unusedSimpArgs false
namespace Go.Lx
theorem lx_blank {p : Nat} {c : UInt8} {l : List UInt8} (h : blankB c = true) : lx p (c :: l) = lx (p + 1) l := by
  unfold lx
  rw [space_blank h, Nat.add_comm 1 (space l), List.drop_succ_cons, show p + (space l + 1) = p + 1 + space l by omega]
theorem lx_rem {p : Nat} {c : UInt8} {l : List UInt8} (h : c.toNat = 35) : lx p (c :: l) = lx (p + ((c :: l).takeWhile lineB).length) ((c :: l).drop ((c :: l).takeWhile lineB).length) := by
  unfold lx
  rw [space_remark h, List.drop_drop, Nat.add_assoc]
theorem lx_tok {p : Nat} {c : UInt8} {l : List UInt8} {t : Tok} (hb : blankB c = false) (h : ¬ c.toNat = 35) (ht : tok1 p (c :: l) = .ok t) : lx p (c :: l) = (lx (p + t.text.length) ((c :: l).drop t.text.length)).map (t :: ·) := by
  have hs := space_stop (l := l) hb h
  have := lx_ok (p := p) (l := c :: l) (t := t) (by rw [hs]; simp) (by rw [hs]; exact ht)
  rw [hs] at this
  simpa using this
theorem lx_bad {p e : Nat} {c : UInt8} {l : List UInt8} (hb : blankB c = false) (h : ¬ c.toNat = 35) (ht : tok1 p (c :: l) = .error e) : lx p (c :: l) = .error (e, p) := by
  have hs := space_stop (l := l) hb h
  have := lx_err (p := p) (l := c :: l) (e := e) (by rw [hs]; simp) (by rw [hs]; exact ht)
  rw [hs] at this
  simpa using this
theorem cls3 {c : UInt8} (h : classB c = 3) : blankB c = true := by
  unfold classB at h
  split at h
  · omega
  · split at h
    · omega
    · split at h
      · assumption
      · split at h <;> omega
theorem cls4 {c : UInt8} (h : classB c = 4) : c.toNat = 35 := by
  unfold classB at h
  split at h
  · omega
  · split at h
    · omega
    · split at h
      · omega
      · split at h
        · assumption
        · omega
theorem cls1 {c : UInt8} (h : classB c = 1) : letterB c = true ∧ blankB c = false ∧ ¬ c.toNat = 35 := by
  have hl : letterB c = true := by
    unfold classB at h
    split at h
    · assumption
    · split at h
      · omega
      · split at h
        · omega
        · split at h <;> omega
  refine ⟨hl, ?_⟩
  simp [letterB] at hl
  simp [blankB]
  omega
theorem cls2 {c : UInt8} (h : classB c = 2) : letterB c = false ∧ digitB c = true ∧ blankB c = false ∧ ¬ c.toNat = 35 := by
  have hl : letterB c = false ∧ digitB c = true := by
    unfold classB at h
    split at h
    · omega
    · rename_i h1
      split at h
      · rename_i h2; exact ⟨by simpa using h1, h2⟩
      · split at h
        · omega
        · split at h <;> omega
  refine ⟨hl.1, hl.2, ?_⟩
  have := hl.2
  simp [digitB] at this
  simp [blankB]
  omega
theorem cls5 {c : UInt8} (h1 : ¬ classB c = 1) (h2 : ¬ classB c = 2) (h3 : ¬ classB c = 3) (h4 : ¬ classB c = 4) : letterB c = false ∧ digitB c = false ∧ blankB c = false ∧ ¬ c.toNat = 35 := by
  unfold classB at h1 h2 h3 h4
  cases a : letterB c with
  | true => rw [a] at h1; simp at h1
  | false =>
    cases b : digitB c with
    | true => rw [a, b] at h2; simp at h2
    | false =>
      cases d : blankB c with
      | true => rw [a, b, d] at h3; simp at h3
      | false =>
        rw [a, b, d] at h4
        refine ⟨rfl, rfl, rfl, fun e => ?_⟩
        rw [if_pos e] at h4
        simp at h4
theorem clsw {c : UInt8} : wordB c = decide (classB c ≤ 2) := by
  unfold classB wordB
  cases a : letterB c with
  | true => simp
  | false =>
    cases b : digitB c with
    | true => simp
    | false =>
      simp only [Bool.or_self, Bool.false_eq_true, if_false]
      split
      · rfl
      · split <;> rfl
theorem clsd {c : UInt8} : digitB c = decide (classB c = 2) := by
  unfold classB
  cases a : letterB c with
  | true =>
    simp [letterB] at a
    simp [digitB]
    omega
  | false =>
    cases b : digitB c with
    | true => simp
    | false =>
      simp only [Bool.false_eq_true, if_false]
      split
      · rfl
      · split <;> rfl
theorem val_snoc (t : List UInt8) (c : UInt8) : val (t ++ [c]) = val t * 10 + (c.toNat - 48) := by
  simp [val, valFrom, List.foldl_append]
theorem val_take {l : List UInt8} {k : Nat} {c : UInt8} (hc : l[k]? = some c) : val (l.take (k + 1)) = val (l.take k) * 10 + (c.toNat - 48) := by
  rw [List.take_add_one, hc]
  exact val_snoc _ _
theorem val_small {t : List UInt8} (h : t.all digitB = true) (hl : t.length ≤ 15) : val t < 1000000000000000 := by
  have := val_lt t 0 0 (by decide) h
  have h2 : (10 : Nat) ^ (0 + t.length) ≤ 10 ^ 15 := Nat.pow_le_pow_right (by decide) (by omega)
  have h3 : (10 : Nat) ^ 15 = 1000000000000000 := by decide
  unfold val
  omega
/-- The sign that begins with c, an equals sign behind it or not. -/
def beg (c : UInt8) (b : Bool) : List UInt8 → Bool
  | [a] => a == c
  | [a, _] => a == c && b
  | _ => false
def signF (c : UInt8) (b : Bool) : List UInt8 := (signs.find? (beg c b)).getD []
theorem sign_F (c : UInt8) (l : List UInt8) : sign (c :: l) = signF c (l.head? == some 61) := by
  unfold sign signF
  congr 1
  have h : ∀ x ∈ signs, ∃ a, x = [a] ∨ x = [a, 61] := by
    intro x hx
    simp only [signs, List.mem_cons, List.not_mem_nil, or_false] at hx
    rcases hx with rfl | rfl | rfl | rfl | rfl | rfl | rfl | rfl | rfl | rfl | rfl | rfl | rfl | rfl | rfl | rfl | rfl | rfl
    all_goals first | exact ⟨_, .inr rfl⟩ | exact ⟨_, .inl rfl⟩
  revert h
  generalize signs = xs
  intro h
  induction xs with
  | nil => rfl
  | cons x xs ih =>
    have e : x.isPrefixOf (c :: l) = beg c (l.head? == some 61) x := by
      obtain ⟨a, rfl | rfl⟩ := h x (by simp)
      · simp [List.isPrefixOf, beg]
      · cases l with
        | nil => simp [List.isPrefixOf, beg]
        | cons d l =>
          simp only [List.isPrefixOf, beg, List.head?_cons, Bool.and_true]
          congr 1
          rw [Bool.eq_iff_iff]
          simp
          exact eq_comm
    rw [List.find?_cons, List.find?_cons, e, ih fun y hy => h y (by simp [hy])]
theorem signF_all : ∀ n, n < 256 → ∀ b, signF (UInt8.ofNat n) b = if b && (n == 61 || n == 33 || n == 60 || n == 62) then [UInt8.ofNat n, 61] else if n == 33 || !ones.contains (UInt8.ofNat n) then [] else [UInt8.ofNat n] := by decide +kernel
theorem sign_eq (c : UInt8) (l : List UInt8) : sign (c :: l) = if l.head? = some 61 ∧ (c.toNat = 61 ∨ c.toNat = 33 ∨ c.toNat = 60 ∨ c.toNat = 62) then [c, 61] else if c.toNat = 33 ∨ ones.contains c = false then [] else [c] := by
  rw [sign_F]
  have := signF_all c.toNat c.toNat_lt (l.head? == some 61)
  rw [UInt8.ofNat_toNat] at this
  rw [this]
  simp [or_assoc]
end Go.Lx
