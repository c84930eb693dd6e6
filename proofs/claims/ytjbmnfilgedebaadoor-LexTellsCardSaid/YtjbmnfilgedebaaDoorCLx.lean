/- Plain Lean: how a text is cut (chapter 1), without any program. -/
set_option linter.unusedVariables false
set_option linter.unusedSimpArgs false
namespace Go.Lx
def letterB (c : UInt8) : Bool := (97 ≤ c.toNat && c.toNat ≤ 122) || c.toNat == 95
def digitB (c : UInt8) : Bool := 48 ≤ c.toNat && c.toNat ≤ 57
def wordB (c : UInt8) : Bool := letterB c || digitB c
def lineB (c : UInt8) : Bool := c.toNat != 10
def blankB (c : UInt8) : Bool := c.toNat == 32 || c.toNat == 9 || c.toNat == 10
theorem tw_lt {p : UInt8 → Bool} {l : List UInt8} {k : Nat} {c : UInt8} (h : (l.take k).all p = true) (hc : l[k]? = some c) (hp : p c = false) : (l.takeWhile p).length = k := by
  induction l generalizing k with
  | nil => simp at hc
  | cons a l ih =>
    cases k with
    | zero => simp at hc; subst hc; simp [hp]
    | succ k =>
      simp at h hc
      simp [h.1]
      exact ih (by simpa using h.2) hc
theorem tw_all {p : UInt8 → Bool} {l : List UInt8} (h : l.all p = true) : (l.takeWhile p).length = l.length := by
  induction l with
  | nil => rfl
  | cons a l ih => simp at h; simp [h.1]; exact ih (by simpa using h.2)
theorem all_snoc {p : UInt8 → Bool} {l : List UInt8} {k : Nat} {c : UInt8} (h : (l.take k).all p = true) (hc : l[k]? = some c) (hp : p c = true) : (l.take (k + 1)).all p = true := by
  rw [List.take_add_one, hc]
  simp [List.all_append, h, hp]
/-- How long blanks and remarks are that begin a text; inside a remark or not. -/
def sp : Bool → List UInt8 → Nat
  | _, [] => 0
  | false, c :: l => if blankB c then 1 + sp false l else if c.toNat = 35 then 1 + sp true l else 0
  | true, c :: l => if c.toNat = 10 then 1 + sp false l else 1 + sp true l
def space (l : List UInt8) : Nat := sp false l
theorem sp_remark (l : List UInt8) : sp true l = (l.takeWhile lineB).length + sp false (l.drop (l.takeWhile lineB).length) := by
  induction l with
  | nil => rfl
  | cons c l ih =>
    by_cases h : c.toNat = 10
    · have hb : blankB c = true := by simp [blankB, h]
      simp [sp, lineB, h, hb]
    · have hl : lineB c = true := by simp [lineB, h]
      simp only [sp, h, List.takeWhile_cons, hl, if_true, if_false, List.length_cons, List.drop_succ_cons]
      rw [ih]
      omega
theorem space_blank {c : UInt8} {l : List UInt8} (h : blankB c = true) : space (c :: l) = 1 + space l := by simp [space, sp, h]
theorem space_remark {c : UInt8} {l : List UInt8} (h : c.toNat = 35) : space (c :: l) = ((c :: l).takeWhile lineB).length + space ((c :: l).drop ((c :: l).takeWhile lineB).length) := by
  have hb : blankB c = false := by simp [blankB, h]
  have hl : lineB c = true := by simp [lineB, h]
  simp only [space, sp, hb, h, List.takeWhile_cons, hl, if_true, if_false, Bool.false_eq_true, List.length_cons, List.drop_succ_cons]
  rw [sp_remark]
  omega
theorem space_stop {c : UInt8} {l : List UInt8} (hb : blankB c = false) (h : ¬ c.toNat = 35) : space (c :: l) = 0 := by simp [space, sp, hb, h]
theorem sp_le (b : Bool) (l : List UInt8) : sp b l ≤ l.length := by
  induction l generalizing b with
  | nil => simp [sp]
  | cons c l ih =>
    have h1 := ih false
    have h2 := ih true
    cases b <;> simp only [sp, List.length_cons] <;> split <;> (try split) <;> omega
theorem space_le (l : List UInt8) : space l ≤ l.length := sp_le false l
def signs : List (List UInt8) := [[61, 61], [33, 61], [60, 61], [62, 61], [60], [62], [61], [43], [45], [42], [47], [37], [40], [41], [123], [125], [44], [59]]
/-- The sign that begins a text. -/
def sign (l : List UInt8) : List UInt8 := (signs.find? fun x => x.isPrefixOf l).getD []
theorem pre_take (l p : List UInt8) : decide (l.take p.length = p) = p.isPrefixOf l := by
  rw [Bool.eq_iff_iff]
  simp only [decide_eq_true_eq, List.isPrefixOf_iff_prefix]
  constructor
  · intro h; rw [← h]; exact List.take_prefix _ _
  · intro h; exact (List.prefix_iff_eq_take.1 h).symm
theorem pre_short (l p : List UInt8) (h : l.length < p.length) : p.isPrefixOf l = false := by
  rw [Bool.eq_false_iff]
  intro hp
  have := (List.isPrefixOf_iff_prefix.1 hp).length_le
  omega
theorem sign_hit {l x : List UInt8} {k : Nat} (h : ∀ y ∈ signs.take k, y.isPrefixOf l = false) (hx : signs[k]? = some x) (hp : x.isPrefixOf l = true) : sign l = x := by
  unfold sign
  have hk : k < signs.length := (List.getElem?_eq_some_iff.1 hx).1
  have hs : signs = signs.take k ++ x :: signs.drop (k + 1) := by
    have := List.take_append_drop k signs
    rw [List.drop_eq_getElem_cons hk, (List.getElem?_eq_some_iff.1 hx).2] at this
    exact this.symm
  rw [hs, List.find?_append]
  have : (signs.take k).find? (fun y => y.isPrefixOf l) = none := List.find?_eq_none.2 fun y hy => by rw [h y hy]; simp
  rw [this]
  simp [hp]
theorem sign_miss {l : List UInt8} (h : ∀ y ∈ signs, y.isPrefixOf l = false) : sign l = [] := by
  unfold sign
  rw [List.find?_eq_none.2 fun y hy => by rw [h y hy]; simp]
  rfl
theorem sign_le (l : List UInt8) : (sign l).length ≤ l.length := by
  unfold sign
  cases h : signs.find? fun x => x.isPrefixOf l with
  | none => simp
  | some x =>
    have hp := List.find?_some (p := fun x : List UInt8 => x.isPrefixOf l) h
    exact (List.isPrefixOf_iff_prefix.1 hp).length_le
theorem sign_short : ∀ x ∈ signs, x.length ≤ 2 := by decide
theorem sign_pos : ∀ x ∈ signs, 0 < x.length := by decide
/-- A token. -/
structure Tok where
  kind : Nat
  text : List UInt8
  num : Nat
  pos : Nat
  deriving DecidableEq
/-- The number that digits spell. -/
def valFrom (a : Nat) (t : List UInt8) : Nat := t.foldl (fun a c => a * 10 + (c.toNat - 48)) a
def val (t : List UInt8) : Nat := valFrom 0 t
/-- The token that begins a text, or what is wrong. -/
def tok1 (pos : Nat) (l : List UInt8) : Except Nat Tok := match l with
  | [] => .error 0
  | c :: _ =>
    if letterB c then .ok ⟨1, l.takeWhile wordB, 0, pos⟩
    else if digitB c then (if 15 < (l.takeWhile digitB).length then .error 3 else .ok ⟨2, l.takeWhile digitB, val (l.takeWhile digitB), pos⟩)
    else if sign l = [] then .error 2 else .ok ⟨3, sign l, 0, pos⟩
/-- The tokens of a text that begins with none of space. -/
def toks : Nat → Nat → List UInt8 → Except (Nat × Nat) (List Tok)
  | 0, _, _ => .ok []
  | n + 1, pos, l => if l = [] then .ok [] else match tok1 pos l with
    | .error e => .error (e, pos)
    | .ok t => (toks n (pos + t.text.length + space (l.drop t.text.length)) ((l.drop t.text.length).drop (space (l.drop t.text.length)))).map (t :: ·)
def tokens (l : List UInt8) : Except (Nat × Nat) (List Tok) := if 6000 < l.length then .error (4, 0) else toks (l.length + 1) (space l) (l.drop (space l))
theorem tok1_len {pos : Nat} {l : List UInt8} {t : Tok} (h : tok1 pos l = .ok t) : 0 < t.text.length ∧ t.text.length ≤ l.length ∧ t.text = l.take t.text.length ∧ t.pos = pos := by
  cases l with
  | nil => cases h
  | cons c l =>
    unfold tok1 at h
    simp only at h
    have tw : ∀ p : UInt8 → Bool, p c = true → 0 < ((c :: l).takeWhile p).length ∧ ((c :: l).takeWhile p).length ≤ (c :: l).length ∧ (c :: l).takeWhile p = (c :: l).take ((c :: l).takeWhile p).length := by
      intro p hp
      refine ⟨by simp [List.takeWhile_cons, hp], (List.takeWhile_sublist _).length_le, ?_⟩
      exact List.prefix_iff_eq_take.1 (List.takeWhile_prefix _)
    by_cases h1 : letterB c = true
    · rw [if_pos h1] at h
      cases h
      obtain ⟨a, b, d⟩ := tw wordB (by simp [wordB, h1])
      exact ⟨a, b, d, rfl⟩
    · rw [if_neg h1] at h
      by_cases h2 : digitB c = true
      · rw [if_pos h2] at h
        by_cases h3 : 15 < ((c :: l).takeWhile digitB).length
        · rw [if_pos h3] at h; cases h
        · rw [if_neg h3] at h
          cases h
          obtain ⟨a, b, d⟩ := tw digitB h2
          exact ⟨a, b, d, rfl⟩
      · rw [if_neg h2] at h
        by_cases h3 : sign (c :: l) = []
        · rw [if_pos h3] at h; cases h
        · rw [if_neg h3] at h
          cases h
          refine ⟨List.length_pos_iff.2 h3, sign_le _, ?_, rfl⟩
          unfold sign at h3 ⊢
          cases hf : signs.find? (fun x => x.isPrefixOf (c :: l)) with
          | none => rw [hf] at h3; simp at h3
          | some x =>
            have hp := List.find?_some (p := fun x : List UInt8 => x.isPrefixOf (c :: l)) hf
            exact List.prefix_iff_eq_take.1 (List.isPrefixOf_iff_prefix.1 hp)
theorem tok1_num {pos : Nat} {c : UInt8} {l : List UInt8} (h2 : letterB c = false) (h3 : digitB c = true) : tok1 pos (c :: l) = if 15 < ((c :: l).takeWhile digitB).length then .error 3 else .ok ⟨2, (c :: l).takeWhile digitB, val ((c :: l).takeWhile digitB), pos⟩ := by
  simp only [tok1, h2, h3]
  rfl
theorem tok1_sign {pos : Nat} {c : UInt8} {l : List UInt8} (h2 : letterB c = false) (h3 : digitB c = false) : tok1 pos (c :: l) = if sign (c :: l) = [] then .error 2 else .ok ⟨3, sign (c :: l), 0, pos⟩ := by
  simp only [tok1, h2, h3]
  rfl
theorem toks_fuel {n m pos : Nat} {l : List UInt8} (hn : l.length < n) (hm : l.length < m) : toks n pos l = toks m pos l := by
  induction n generalizing m pos l with
  | zero => omega
  | succ n ih =>
    cases m with
    | zero => omega
    | succ m =>
      unfold toks
      by_cases h : l = []
      · rw [if_pos h, if_pos h]
      · rw [if_neg h, if_neg h]
        cases ht : tok1 pos l with
        | error e => rfl
        | ok t =>
          simp only
          have hl := tok1_len ht
          rw [ih (m := m) (by simp; omega) (by simp; omega)]
theorem val_lt (t : List UInt8) : ∀ a k, a < 10 ^ k → t.all digitB = true → valFrom a t < 10 ^ (k + t.length) := by
  induction t with
  | nil => intro a k h _; simpa [valFrom] using h
  | cons c t ih =>
    intro a k h hd
    simp only [List.all_cons, Bool.and_eq_true] at hd
    have hc : c.toNat - 48 ≤ 9 := by simp [digitB] at hd; omega
    have := ih (a * 10 + (c.toNat - 48)) (k + 1) (by rw [Nat.pow_succ]; omega) hd.2
    simp only [valFrom, List.foldl_cons, List.length_cons] at this ⊢
    rw [show k + (t.length + 1) = k + 1 + t.length by omega]
    exact this
theorem tw_digits (l : List UInt8) : (l.takeWhile digitB).all digitB = true := by
  induction l with
  | nil => rfl
  | cons c l ih =>
    rw [List.takeWhile_cons]
    by_cases h : digitB c = true
    · rw [if_pos h, List.all_cons, h, ih]; rfl
    · rw [if_neg h]; rfl
theorem tw_take (p : UInt8 → Bool) (l : List UInt8) : l.take (l.takeWhile p).length = l.takeWhile p := (List.prefix_iff_eq_take.1 (List.takeWhile_prefix _)).symm
/-- The tokens of a text that begins with none of space, as many as there are. -/
def lexr (pos : Nat) (l : List UInt8) : Except (Nat × Nat) (List Tok) := toks (l.length + 1) pos l
theorem lexr_nil (pos : Nat) : lexr pos [] = .ok [] := rfl
theorem lexr_err {pos e : Nat} {l : List UInt8} (h : l ≠ []) (ht : tok1 pos l = .error e) : lexr pos l = .error (e, pos) := by
  unfold lexr toks
  rw [if_neg h, ht]
theorem lexr_ok {pos : Nat} {l : List UInt8} {t : Tok} (h : l ≠ []) (ht : tok1 pos l = .ok t) :
    lexr pos l = (lexr (pos + t.text.length + space (l.drop t.text.length)) ((l.drop t.text.length).drop (space (l.drop t.text.length)))).map (t :: ·) := by
  have hl := tok1_len ht
  unfold lexr
  rw [toks.eq_def]
  simp only [if_neg h, ht]
  rw [toks_fuel (n := l.length) (m := ((l.drop t.text.length).drop (space (l.drop t.text.length))).length + 1) (by simp; omega) (by omega)]
theorem tokens_eq (l : List UInt8) : tokens l = if 6000 < l.length then .error (4, 0) else lexr (space l) (l.drop (space l)) := by
  unfold tokens lexr
  split
  · rfl
  · rw [toks_fuel]
    · simp; omega
    · omega
end Go.Lx
