/- Laws of tokens, in plain: no program in sight. -/
import Derived.Test.YtjbmnfilgedebaaDoorCLx
set_option linter.unusedVariables false
set_option linter.unusedSimpArgs false
namespace Go.Lx
/-- The tokens of a text that stands at p. -/
def lx (p : Nat) (l : List UInt8) : Except (Nat × Nat) (List Tok) := lexr (p + space l) (l.drop (space l))
def tks (l : List UInt8) : List Tok := match tokens l with | .ok ts => ts | .error _ => []
def tkE (l : List UInt8) : Nat := match tokens l with | .ok _ => 0 | .error e => e.1
def tkP (l : List UInt8) : Nat := match tokens l with | .ok _ => 0 | .error e => e.2
theorem tokens_lx {l : List UInt8} (h : l.length ≤ 6000) : tokens l = lx 0 l := by
  rw [tokens_eq, if_neg (by omega), lx, Nat.zero_add]
theorem lx_end {p : Nat} {l : List UInt8} (h : space l = l.length) : lx p l = .ok [] := by
  rw [lx, h, List.drop_length, lexr_nil]
theorem lx_ok {p : Nat} {l : List UInt8} {t : Tok} (h : space l < l.length) (ht : tok1 (p + space l) (l.drop (space l)) = .ok t) :
    lx p l = (lx (p + space l + t.text.length) (l.drop (space l + t.text.length))).map (t :: ·) := by
  have hne : l.drop (space l) ≠ [] := by
    intro e
    have := congrArg List.length e
    simp at this
    omega
  rw [lx, lexr_ok hne ht, lx, List.drop_drop]
theorem lx_err {p e : Nat} {l : List UInt8} (h : space l < l.length) (ht : tok1 (p + space l) (l.drop (space l)) = .error e) : lx p l = .error (e, p + space l) := by
  have hne : l.drop (space l) ≠ [] := by
    intro e
    have := congrArg List.length e
    simp at this
    omega
  rw [lx, lexr_err hne ht]
theorem map_ok {ε : Type} {r : Except ε (List Tok)} {t : Tok} {us : List Tok} (h : r.map (t :: ·) = .ok us) : ∃ ts, us = t :: ts ∧ r = .ok ts := by
  cases r with
  | error e => cases h
  | ok ts => cases h; exact ⟨ts, rfl, rfl⟩
/-- What tokens there are, one by one. -/
theorem lx_inv {p : Nat} {l : List UInt8} {us : List Tok} (h : lx p l = .ok us) : (us = [] ∧ space l = l.length) ∨
    ∃ t ts, us = t :: ts ∧ space l < l.length ∧ tok1 (p + space l) (l.drop (space l)) = .ok t ∧ t.pos = p + space l ∧ 0 < t.text.length ∧ space l + t.text.length ≤ l.length ∧ t.text = (l.drop (space l)).take t.text.length ∧ lx (p + space l + t.text.length) (l.drop (space l + t.text.length)) = .ok ts := by
  have hs := space_le l
  by_cases he : space l = l.length
  · rw [lx_end he] at h
    cases h
    exact .inl ⟨rfl, he⟩
  · have hlt : space l < l.length := by omega
    cases ht : tok1 (p + space l) (l.drop (space l)) with
    | error e => rw [lx_err hlt ht] at h; cases h
    | ok t =>
      rw [lx_ok hlt ht] at h
      obtain ⟨ts, rfl, h2⟩ := map_ok h
      obtain ⟨a, b, c, d⟩ := tok1_len ht
      rw [List.length_drop] at b
      exact .inr ⟨t, ts, rfl, hlt, rfl, d, a, by omega, c, h2⟩
theorem sp_app_lt (r : List UInt8) : ∀ (l : List UInt8) (b : Bool), sp b l < l.length → sp b (l ++ r) = sp b l := by
  intro l
  induction l with
  | nil => intro b h; simp at h
  | cons c l ih =>
    intro b h
    cases b with
    | false =>
      simp only [sp, List.cons_append] at h ⊢
      split
      · rename_i hb; rw [if_pos hb] at h; rw [ih false (by simp at h; omega)]
      · rename_i hb
        rw [if_neg hb] at h
        split
        · rename_i hc; rw [if_pos hc] at h; rw [ih true (by simp at h; omega)]
        · rfl
    | true =>
      simp only [sp, List.cons_append] at h ⊢
      split
      · rename_i hb; rw [if_pos hb] at h; rw [ih false (by simp at h; omega)]
      · rename_i hb; rw [if_neg hb] at h; rw [ih true (by simp at h; omega)]
theorem sp_app_all (t : List UInt8) : ∀ (l : List UInt8) (b : Bool), sp b l = l.length → sp b (l ++ 10 :: t) = l.length + 1 + sp false t := by
  intro l
  induction l with
  | nil => intro b h; cases b <;> simp [sp, blankB]
  | cons c l ih =>
    intro b h
    cases b with
    | false =>
      simp only [sp, List.cons_append, List.length_cons] at h ⊢
      split
      · rename_i hb; rw [if_pos hb] at h; rw [ih false (by omega)]; omega
      · rename_i hb
        rw [if_neg hb] at h
        split
        · rename_i hc; rw [if_pos hc] at h; rw [ih true (by omega)]; omega
        · rename_i hc; rw [if_neg hc] at h; omega
    | true =>
      simp only [sp, List.cons_append, List.length_cons] at h ⊢
      split
      · rename_i hb; rw [if_pos hb] at h; rw [ih false (by omega)]; omega
      · rename_i hb; rw [if_neg hb] at h; rw [ih true (by omega)]; omega
theorem tw_app {p : UInt8 → Bool} (hp : p 10 = false) (l t : List UInt8) : (l ++ 10 :: t).takeWhile p = l.takeWhile p := by
  induction l with
  | nil => simp [hp]
  | cons c l ih =>
    rw [List.cons_append, List.takeWhile_cons, List.takeWhile_cons, ih]
theorem pre_app {x : List UInt8} (hx : 10 ∉ x) : ∀ (l t : List UInt8), x.isPrefixOf (l ++ 10 :: t) = x.isPrefixOf l := by
  induction x with
  | nil => intro l t; rfl
  | cons c x ih =>
    intro l t
    have hc : c ≠ 10 := fun e => hx (by simp [e])
    cases l with
    | nil => simp [List.isPrefixOf, hc]
    | cons d l =>
      simp only [List.cons_append, List.isPrefixOf]
      rw [ih (fun h => hx (by simp [h]))]
theorem sign_app (l t : List UInt8) : sign (l ++ 10 :: t) = sign l := by
  unfold sign
  congr 1
  have h : ∀ x ∈ signs, (10 : UInt8) ∉ x := by decide
  revert h
  generalize signs = xs
  intro h
  induction xs with
  | nil => rfl
  | cons x xs ih =>
    rw [List.find?_cons, List.find?_cons, pre_app (h x (by simp)), ih (fun y hy => h y (by simp [hy]))]
theorem tok1_app {p : Nat} {l t : List UInt8} (h : l ≠ []) : tok1 p (l ++ 10 :: t) = tok1 p l := by
  cases l with
  | nil => exact absurd rfl h
  | cons c l =>
    have h1 := tw_app (p := wordB) (by decide) (c :: l) t
    have h2 := tw_app (p := digitB) (by decide) (c :: l) t
    have h3 := sign_app (c :: l) t
    rw [List.cons_append] at h1 h2 h3 ⊢
    simp only [tok1, h1, h2, h3]
theorem lx_join : ∀ (n : Nat) (l : List UInt8) (p : Nat) (ts us : List Tok) (t : List UInt8), l.length ≤ n → lx p l = .ok ts → lx (p + l.length + 1) t = .ok us → lx p (l ++ 10 :: t) = .ok (ts ++ us) := by
  intro n
  induction n with
  | zero =>
    intro l p ts us t hn h1 h2
    have : l = [] := List.eq_nil_of_length_eq_zero (by omega)
    subst this
    cases h1
    have hs : space ([] ++ 10 :: t) = 1 + space t := space_blank (by decide)
    have hx : lx p ([] ++ 10 :: t) = lx (p + 0 + 1) t := by
      unfold lx
      rw [hs, List.nil_append, show p + (1 + space t) = p + 0 + 1 + space t by omega, Nat.add_comm 1 (space t), List.drop_succ_cons]
    rw [hx]
    exact h2
  | succ n ih =>
    intro l p ts us t hn h1 h2
    rcases lx_inv h1 with ⟨rfl, hs⟩ | ⟨k, ts, rfl, hs, ht, hp, h0, hl, hk, hr⟩
    · have e : space (l ++ 10 :: t) = l.length + 1 + space t := sp_app_all t l false hs
      have hx : lx p (l ++ 10 :: t) = lx (p + l.length + 1) t := by
        unfold lx
        rw [e, show p + (l.length + 1 + space t) = p + l.length + 1 + space t by omega, show l ++ 10 :: t = (l ++ [10]) ++ t by simp, List.drop_append, List.drop_eq_nil_of_le (by simp)]
        simp [Nat.add_assoc]
        congr 2
        omega
      rw [hx]
      exact h2
    · have e : space (l ++ 10 :: t) = space l := sp_app_lt _ l false hs
      have hne : l.drop (space l) ≠ [] := by
        intro e
        have := congrArg List.length e
        simp at this
        omega
      have hd : (l ++ 10 :: t).drop (space l) = l.drop (space l) ++ 10 :: t := List.drop_append_of_le_length (by omega)
      rw [lx_ok (t := k) (by rw [e]; simp; omega) (by rw [e, hd, tok1_app hne]; exact ht), e]
      have hd2 : (l ++ 10 :: t).drop (space l + k.text.length) = l.drop (space l + k.text.length) ++ 10 :: t := List.drop_append_of_le_length (by omega)
      rw [hd2, ih (l.drop (space l + k.text.length)) _ ts us t (by rw [List.length_drop]; omega) hr (by
        rw [List.length_drop, show p + space l + k.text.length + (l.length - (space l + k.text.length)) + 1 = p + l.length + 1 by omega]; exact h2)]
      rfl
/-- A token further on. -/
def Tok.on (d : Nat) (t : Tok) : Tok := { t with pos := t.pos + d }
theorem tok1_on {p d : Nat} {l : List UInt8} {t : Tok} (h : tok1 p l = .ok t) : tok1 (p + d) l = .ok (t.on d) := by
  cases l with
  | nil => cases h
  | cons c l =>
    simp only [tok1] at h ⊢
    split at h
    · rename_i h1; rw [if_pos h1]; cases h; rfl
    · rename_i h1
      rw [if_neg h1]
      split at h
      · rename_i h2
        rw [if_pos h2]
        split at h
        · cases h
        · rename_i h3; rw [if_neg h3]; cases h; rfl
      · rename_i h2
        rw [if_neg h2]
        split at h
        · cases h
        · rename_i h3; rw [if_neg h3]; cases h; rfl
theorem lx_on (d : Nat) : ∀ (n : Nat) (l : List UInt8) (p : Nat) (ts : List Tok), l.length ≤ n → lx p l = .ok ts → lx (p + d) l = .ok (ts.map (Tok.on d)) := by
  intro n
  induction n with
  | zero =>
    intro l p ts hn h
    have : l = [] := List.eq_nil_of_length_eq_zero (by omega)
    subst this
    cases h
    rfl
  | succ n ih =>
    intro l p ts hn h
    rcases lx_inv h with ⟨rfl, hs⟩ | ⟨k, ts, rfl, hs, ht, hp, h0, hl, hk, hr⟩
    · exact lx_end hs
    · have ht2 := tok1_on (d := d) ht
      rw [show p + space l + d = p + d + space l by omega] at ht2
      rw [lx_ok hs ht2]
      have := ih _ _ ts (by rw [List.length_drop]; omega) hr
      rw [show p + space l + k.text.length + d = p + d + space l + k.text.length by omega] at this
      rw [show (k.on d).text = k.text from rfl, this]
      rfl
theorem tks_lx {l : List UInt8} (h : tkE l = 0) (hl : l.length ≤ 6000) : lx 0 l = .ok (tks l) := by
  have h1 := tokens_lx hl
  unfold tkE at h
  unfold tks
  rw [h1] at h ⊢
  cases hx : lx 0 l with
  | ok ts => rfl
  | error e =>
    rw [hx] at h
    exfalso
    have : ∀ (n : Nat) (l : List UInt8) (p : Nat) (e : Nat × Nat), l.length ≤ n → lx p l = .error e → e.1 ≠ 0 := by
      intro n
      induction n with
      | zero =>
        intro l p e hn h
        have : l = [] := List.eq_nil_of_length_eq_zero (by omega)
        subst this
        cases h
      | succ n ih =>
        intro l p e hn h
        by_cases he : space l = l.length
        · rw [lx_end he] at h; cases h
        · have hs := space_le l
          have hlt : space l < l.length := by omega
          cases ht : tok1 (p + space l) (l.drop (space l)) with
          | error e' =>
            rw [lx_err hlt ht] at h
            cases h
            simp only
            revert ht
            cases hd : l.drop (space l) with
            | nil => have := congrArg List.length hd; simp at this; omega
            | cons c r =>
              simp only [tok1]
              split
              · intro h; cases h
              · split
                · split
                  · intro h; cases h; decide
                  · intro h; cases h
                · split
                  · intro h; cases h; decide
                  · intro h; cases h
          | ok t =>
            rw [lx_ok hlt ht] at h
            obtain ⟨a, -⟩ := tok1_len ht
            cases hr : lx (p + space l + t.text.length) (l.drop (space l + t.text.length)) with
            | ok ts => rw [hr] at h; cases h
            | error e2 =>
              rw [hr] at h
              cases h
              exact ih _ _ _ (by rw [List.length_drop]; omega) hr
    exact this _ _ _ _ (Nat.le_refl _) hx h
theorem tkE_big {l : List UInt8} (h : 6000 < l.length) : tkE l = 4 := by
  unfold tkE
  rw [tokens_eq, if_pos h]
/-- Two texts, a line feed between. -/
theorem tokens_join {s t : List UInt8} (h1 : tkE s = 0) (h2 : tkE t = 0) (hl : s.length + t.length + 1 ≤ 6000) : tokens (s ++ 10 :: t) = .ok (tks s ++ (tks t).map (Tok.on (s.length + 1))) := by
  rw [tokens_lx (by simp; omega)]
  refine lx_join _ s 0 _ _ t (Nat.le_refl _) (tks_lx h1 (by omega)) ?_
  have := lx_on (s.length + 1) _ t 0 _ (Nat.le_refl _) (tks_lx h2 (by omega))
  rw [show 0 + s.length + 1 = 0 + (s.length + 1) by omega]
  exact this
/-- Blanks and remarks, as the law goes through them. -/
def seg : Bool → List UInt8 → Bool
  | _, [] => true
  | r, c :: l => (((r || decide (c.toNat = 35)) && decide (c.toNat ≠ 10)) || blankB c) && seg ((r || decide (c.toNat = 35)) && decide (c.toNat ≠ 10)) l
theorem seg_go {r r' : Bool} {c : UInt8} {l : List UInt8} (h : seg r (c :: l) = true) (hr : r' = true ↔ ((r = true ∨ c.toNat = 35) ∧ c.toNat ≠ 10)) : seg r' l = true := by
  simp only [seg, Bool.and_eq_true] at h
  have e : r' = ((r || decide (c.toNat = 35)) && decide (c.toNat ≠ 10)) := by
    rw [Bool.eq_iff_iff, hr]
    simp
  rw [e]
  exact h.2
theorem seg_no {r : Bool} {c : UInt8} {l : List UInt8} (h : seg r (c :: l) = true) : ((r = true ∨ c.toNat = 35) ∧ c.toNat ≠ 10) ∨ c.toNat = 32 ∨ c.toNat = 9 ∨ c.toNat = 10 := by
  simp only [seg, Bool.and_eq_true] at h
  have := h.1
  simp only [blankB, Bool.or_eq_true, Bool.and_eq_true, decide_eq_true_eq, beq_iff_eq] at this
  rcases this with h | (h | h) | h
  · exact .inl h
  · exact .inr (.inl h)
  · exact .inr (.inr (.inl h))
  · exact .inr (.inr (.inr h))
theorem seg_sp : ∀ (l : List UInt8) (b : Bool), seg b (l.take (sp b l)) = true := by
  intro l
  induction l with
  | nil => intro b; cases b <;> rfl
  | cons c l ih =>
    intro b
    cases b with
    | false =>
      simp only [sp]
      split
      · rename_i hb
        have hc : ¬ c.toNat = 35 := by intro e; simp [blankB, e] at hb
        rw [Nat.add_comm, List.take_succ_cons]
        simp [seg, hb, hc, ih]
      · split
        · rename_i hb hc
          rw [Nat.add_comm, List.take_succ_cons]
          simp [seg, hc, ih]
        · rfl
    | true =>
      simp only [sp]
      split
      · rename_i hb
        rw [Nat.add_comm, List.take_succ_cons]
        simp [seg, hb, ih, blankB]
      · rename_i hb
        rw [Nat.add_comm, List.take_succ_cons]
        simp [seg, hb, ih]
theorem pos_le : ∀ (n : Nat) (l : List UInt8) (p : Nat) (ts : List Tok), l.length ≤ n → lx p l = .ok ts → ∀ x ∈ ts, x.pos ≤ p + l.length := by
  intro n
  induction n with
  | zero =>
    intro l p ts hn h
    have : l = [] := List.eq_nil_of_length_eq_zero (by omega)
    subst this
    cases h
    simp
  | succ n ih =>
    intro l p ts hn h
    rcases lx_inv h with ⟨rfl, hs⟩ | ⟨k, ts, rfl, hs, ht, hp, h0, hl, hk, hr⟩
    · simp
    · intro x hx
      rcases List.mem_cons.1 hx with rfl | hx
      · omega
      · have := ih _ _ ts (by rw [List.length_drop]; omega) hr x hx
        rw [List.length_drop] at this
        omega
theorem tks_pos {l : List UInt8} {x : Tok} {i : Nat} (h : (tks l)[i]? = some x) : x.pos ≤ 6000 := by
  by_cases hl : l.length ≤ 6000
  · by_cases h0 : tkE l = 0
    · have := pos_le _ l 0 _ (Nat.le_refl _) (tks_lx h0 hl) x (List.mem_of_getElem? h)
      omega
    · unfold tkE at h0
      unfold tks at h
      cases ht : tokens l with
      | ok ts => rw [ht] at h0; exact absurd rfl h0
      | error e => rw [ht] at h; simp at h
  · have : tks l = [] := by unfold tks; rw [tokens_eq, if_pos (by omega)]
    rw [this] at h
    simp at h
theorem tks_err {l : List UInt8} (h : tkE l ≠ 0) : tks l = [] := by
  unfold tkE at h
  unfold tks
  cases ht : tokens l with
  | ok ts => rw [ht] at h; exact absurd rfl h
  | error e => rfl
end Go.Lx
