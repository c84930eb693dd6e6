/- Texts of GraphOrder Pl. -/
import Derived.Test.YtjbiabapnphheaaGreatDoorCMd
import Derived.Test.YtjbiabapnphheaaGreatDoorCXu
set_option linter.unusedSimpArgs false
set_option linter.unusedVariables false
set_option linter.unusedSectionVars false
namespace Go.Y
open Go.Wk Go.Xt
theorem i64_ok {n : Int} (h : -9223372036854775808 ≤ n ∧ n ≤ 9223372036854775807) : i64 n = some n := if_pos h
theorem bS {α β : Type} {x : α} {f : α → Option β} : Option.bind (some x) f = f x := rfl
theorem at_nat {α : Type} {l : List α} {i : Nat} : at_ l (i : Int) = l[i]? := by simp [at_]
theorem at_0 {α : Type} {l : List α} (h : 0 < l.length) : at_ l 0 = some l[0] := by simp [at_, h]
theorem lx_letter_t (c : UInt8) : ∃ b, lx_letter c = some b := by
  unfold lx_letter
  split
  · split <;> exact ⟨_, rfl⟩
  · exact ⟨_, rfl⟩
theorem lx_digit_t (c : UInt8) : ∃ b, lx_digit c = some b := by
  unfold lx_digit
  split <;> exact ⟨_, rfl⟩
theorem lx_n1_t (c : UInt8) : ∃ b, lx_n1 c = some b := by
  obtain ⟨a, ha⟩ := lx_letter_t c
  obtain ⟨b, hb⟩ := lx_digit_t c
  unfold lx_n1
  rw [ha, bS, hb, bS]
  split <;> exact ⟨_, rfl⟩
theorem lx_while_t (l : List UInt8) (p : UInt8 → Option Bool) (hp : ∀ c, ∃ b, p c = some b) (hl : l.length ≤ 65536) : ∀ (n i : Nat), i ≤ l.length → l.length < n + i → ∃ r, lx_while_l1 l p n (i : Int) = some r
  | 0, i, h1, h2 => by omega
  | n + 1, i, h1, h2 => by
    rw [lx_while_l1]
    by_cases c : i < l.length
    · obtain ⟨b, hb⟩ := hp l[i]
      rw [if_pos (by omega), at_nat, List.getElem?_eq_getElem c, bS, hb, bS]
      cases b with
      | true => rw [lx_while_j1, if_pos rfl, i64_ok (by omega), bS]; exact lx_while_t l p hp hl n (i + 1) c (by omega)
      | false => exact ⟨_, rfl⟩
    · rw [if_neg (by omega)]
      exact ⟨_, rfl⟩
theorem lex_named_t (fu : Nat) (hf : 20 ≤ fu) (s : List UInt8) : ∃ b, lex_named fu s = some b := by
  have hj : ∀ b, (b = true ∨ s.length ≤ 12) → ∃ r, lex_named_j1 fu s b = some r := by
    intro b hb
    cases b with
    | true => exact ⟨_, rfl⟩
    | false =>
      have hs : s.length ≤ 12 := by simpa using hb
      obtain ⟨r, hr⟩ := lx_while_t s lx_n1 lx_n1_t (by omega) fu 0 (by omega) (by omega)
      have hr2 : lx_while fu s lx_n1 = some r := hr
      exact ⟨_, by rw [lex_named_j1, if_neg (by decide), hr2, bS]⟩
  rw [lex_named]
  by_cases h1 : (s.length : Int) < 1
  · rw [if_pos h1]; exact hj _ (.inl rfl)
  · rw [if_neg h1]
    by_cases h2 : (12 : Int) < s.length
    · rw [if_pos h2]; exact hj _ (.inl rfl)
    · have h0 : 0 < s.length := by omega
      obtain ⟨b, hb⟩ := lx_letter_t s[0]
      rw [if_neg h2, at_0 h0, bS, hb, bS]
      cases b with
      | false => rw [if_neg (by decide)]; exact hj _ (.inl rfl)
      | true =>
        rw [if_pos rfl, cat, if_pos (by simp; omega), bS, cat, if_pos (by simp; omega), bS, scont, if_pos (by decide +kernel), bS]
        exact hj _ (.inr (by omega))
def kidN (k : Int) : Int := if k ≤ 3 ∨ k = 20 then 0 else if k ≤ 5 ∨ k = 21 ∨ k = 24 then 1 else if k ≤ 18 ∨ k = 23 then 2 else -1
theorem syn_kids_t (k : Int) : syn_kids k = some (kidN k) := by
  unfold syn_kids kidN
  by_cases h1 : k ≤ 3
  · rw [if_pos h1, if_pos (.inl h1)]; rfl
  · rw [if_neg h1]
    by_cases h2 : k = 20
    · rw [decide_eq_true h2, if_pos (.inr h2)]; rfl
    · rw [decide_eq_false h2, syn_kids_j1, if_neg (by decide), if_neg (show ¬ (k ≤ 3 ∨ k = 20) by omega)]
      by_cases h3 : k ≤ 5
      · rw [if_pos h3, if_pos (.inl h3)]; rfl
      · rw [if_neg h3]
        by_cases h4 : k = 21
        · rw [if_pos h4, if_pos (.inr (.inl h4))]; rfl
        · rw [if_neg h4]
          by_cases h5 : k = 24
          · rw [decide_eq_true h5, if_pos (.inr (.inr h5))]; rfl
          · rw [decide_eq_false h5, syn_kids_j2, if_neg (by decide), if_neg (show ¬ (k ≤ 5 ∨ k = 21 ∨ k = 24) by omega)]
            by_cases h6 : k ≤ 18
            · rw [if_pos h6, if_pos (.inl h6)]; rfl
            · rw [if_neg h6]
              by_cases h7 : k = 23
              · rw [decide_eq_true h7, if_pos (.inr h7)]; rfl
              · rw [decide_eq_false h7, if_neg (show ¬ (k ≤ 18 ∨ k = 23) by omega)]; rfl
theorem syn_node_t (node d : Int) (h0 : 0 ≤ node) (h1 : node ≤ 4294967296) : ∃ e, syn_node node d = some (e, node + 1) ∧ (e = 0 → node + 1 ≤ 2000 ∧ d ≤ 40) := by
  unfold syn_node
  rw [i64_ok (by omega), bS]
  by_cases c : 2000 < node + 1
  · rw [if_pos c]; exact ⟨4, rfl, fun h => absurd h (by decide)⟩
  · rw [if_neg c]
    by_cases e : 40 < d
    · rw [decide_eq_true e]; exact ⟨4, rfl, fun h => absurd h (by decide)⟩
    · rw [decide_eq_false e]; exact ⟨0, rfl, fun _ => ⟨by omega, by omega⟩⟩
structure KidsOk (x : TExpr) : Prop where
  eq : 0 ≤ kidN x.Kind → (x.Kids.length : Int) = kidN x.Kind
  le : x.Kids.length ≤ 6
def OkE : Nat → TExpr → Prop
  | 0, _ => False
  | k + 1, x => 1 ≤ x.Kind ∧ x.Kind ≤ 24 ∧ KidsOk x ∧ ∀ y ∈ x.Kids, OkE k y
def nE : Nat → TExpr → Nat
  | 0, _ => 0
  | k + 1, x => 1 + (x.Kids.map (nE k)).sum
theorem kidN_le (k : Int) : kidN k ≤ 2 := by
  unfold kidN
  split
  · decide
  · split
    · decide
    · split <;> decide
theorem syn_expr_t : ∀ (n : Nat) (x : TExpr) (d node : Int), 62 ≤ n + d → 0 ≤ d → d ≤ 41 → 0 ≤ node → node ≤ 2000 →
    ∃ e k, (SynExpr_run n).syn_expr node x d = some (e, k) ∧ node ≤ k ∧ (e = 0 → k ≤ 2000 ∧ OkE (41 - d).toNat x ∧ k = node + (nE (41 - d).toNat x : Nat)) := by
  intro n
  induction n with
  | zero => intro x d node h0 h1 h2; omega
  | succ n ih =>
    intro x d node h0 h1 h2 h3 h4
    show ∃ e k, syn_expr n (SynExpr_run n) node x d = some (e, k) ∧ _
    obtain ⟨b, hb⟩ := lex_named_t n (by omega) x.Name
    obtain ⟨e, hn, he⟩ := syn_node_t node d h3 (by omega)
    rw [syn_expr, hn, bS]
    by_cases c : e = 0
    · subst c
      obtain ⟨hk, hd⟩ := he rfl
      rw [if_neg (by simp)]
      have hD : (41 - d).toNat = (40 - d).toNat + 1 := by omega
      rw [hD]
      generalize hP : (fun o : Option (Int × Int) => ∃ e k, o = some (e, k) ∧ node ≤ k ∧ (e = 0 → k ≤ 2000 ∧ OkE ((40 - d).toNat + 1) x ∧ k = node + (nE ((40 - d).toNat + 1) x : Nat))) = P
      have bad : ∀ e : Int, e ≠ 0 → P (some (e, node + 1)) := fun e h => by rw [← hP]; exact ⟨e, _, rfl, by omega, fun h' => absurd h' h⟩
      have L : x.Kids.length ≤ 6 → ∀ (m i : Nat) (c : Int), i ≤ x.Kids.length → x.Kids.length < m + i → 0 ≤ c → c ≤ 2000 →
          ∃ e k, syn_expr_l1 (SynExpr_run n) x d m i c = some (e, k) ∧ c ≤ k ∧ (e = 0 → k ≤ 2000 ∧ (∀ y ∈ x.Kids.drop i, OkE (40 - d).toNat y) ∧ k = c + (((x.Kids.drop i).map (nE (40 - d).toNat)).sum : Nat)) := by
        intro hl m
        induction m with
        | zero => intro i c h1 h2; omega
        | succ m ihm =>
          intro i c g1 g2 g3 g4
          rw [syn_expr_l1]
          by_cases q : i < x.Kids.length
          · obtain ⟨e, k, e1, e2, e3⟩ := ih x.Kids[i] (d + 1) c (by omega) (by omega) (by omega) g3 g4
            rw [if_pos (by omega), at_nat, List.getElem?_eq_getElem q, bS, i64_ok (by omega), bS, e1, bS]
            by_cases z : e = 0
            · subst z
              obtain ⟨f1, f2, f3⟩ := e3 rfl
              rw [if_neg (by simp), i64_ok (by omega), bS]
              obtain ⟨e', k', r1, r2, r3⟩ := ihm (i + 1) k q (by omega) (by omega) f1
              refine ⟨e', k', r1, by omega, fun hz => ?_⟩
              obtain ⟨s1, s2, s3⟩ := r3 hz
              have hd' : (41 - (d + 1)).toNat = (40 - d).toNat := by omega
              rw [hd'] at f2 f3
              refine ⟨s1, fun y hy => ?_, ?_⟩
              · rw [List.drop_eq_getElem_cons q] at hy
                rcases List.mem_cons.1 hy with rfl | hy
                · exact f2
                · exact s2 y hy
              · rw [List.drop_eq_getElem_cons q, List.map_cons, List.sum_cons]
                omega
            · rw [if_pos z]
              exact ⟨e, k, rfl, e2, fun h => absurd h z⟩
          · rw [if_neg (by omega), List.drop_eq_nil_of_le (by omega)]
            exact ⟨0, c, rfl, by omega, fun _ => ⟨g4, by simp, by simp⟩⟩
      by_cases kd : 1 ≤ x.Kind ∧ x.Kind ≤ 24
      · have J6 : ∀ b, (b = false → KidsOk x) → P (syn_expr_j6 (SynExpr_run n) x d (0, node + 1) b) := by
          intro b h
          cases b with
          | true => exact bad 5 (by decide)
          | false =>
            have hk' := h rfl
            rw [syn_expr_j6, if_neg (by decide), ← hP]
            obtain ⟨e, k, r1, r2, r3⟩ := L hk'.le (x.Kids.length + 1) 0 (node + 1) (by omega) (by omega) (by omega) (by omega)
            refine ⟨e, k, r1, by omega, fun hz => ?_⟩
            obtain ⟨s1, s2, s3⟩ := r3 hz
            rw [List.drop_zero] at s2 s3
            exact ⟨s1, ⟨kd.1, kd.2, hk', s2⟩, by rw [nE]; omega⟩
        have kl := kidN_le x.Kind
        have J5 : ∀ b, (b = false → 0 ≤ kidN x.Kind → (x.Kids.length : Int) = kidN x.Kind) → P (syn_expr_j5 (SynExpr_run n) x d (0, node + 1) (kidN x.Kind) b) := by
          intro b h
          cases b with
          | true => rw [syn_expr_j5, if_pos rfl]; exact J6 _ (fun h => absurd h (by decide))
          | false =>
            rw [syn_expr_j5, if_neg (by decide)]
            by_cases q : kidN x.Kind < 0
            · rw [if_pos q]
              exact J6 _ fun hd => ⟨h rfl, by have := of_decide_eq_false hd; omega⟩
            · rw [if_neg q]
              exact J6 _ fun _ => ⟨h rfl, by have := h rfl (by omega); omega⟩
        have J4 : ∀ b, P (syn_expr_j4 (SynExpr_run n) x d (0, node + 1) (kidN x.Kind) b) := by
          intro b
          cases b with
          | true => exact bad 7 (by decide)
          | false =>
            rw [syn_expr_j4, if_neg (by decide)]
            by_cases q : 0 ≤ kidN x.Kind
            · rw [if_pos q]
              exact J5 _ fun hd _ => by have := of_decide_eq_false hd; omega
            · rw [if_neg q]
              exact J5 _ fun _ h => absurd h q
        have J3 : ∀ b, P (syn_expr_j3 n (SynExpr_run n) x d (0, node + 1) (kidN x.Kind) b) := by
          intro b'
          cases b' with
          | true => exact bad 3 (by decide)
          | false =>
            rw [syn_expr_j3, if_neg (by decide), hb]
            simp only [bS]
            split
            · exact J4 _
            · split
              · exact J4 _
              · split <;> exact J4 _
        have J2 : ∀ b, P (syn_expr_j2 n (SynExpr_run n) x d (0, node + 1) (kidN x.Kind) b) := by
          intro b'
          unfold syn_expr_j2
          split
          · exact J3 _
          · split
            · split <;> exact J3 _
            · exact J3 _
        have J1 : ∀ b, P (syn_expr_j1 n (SynExpr_run n) x d (0, node + 1) b) := by
          intro b'
          cases b' with
          | true => exact bad 1 (by decide)
          | false =>
            rw [syn_expr_j1, if_neg (by decide), syn_kids_t, bS]
            split
            · split <;> exact J2 _
            · exact J2 _
        have G : P (if x.Kind < 1 then syn_expr_j1 n (SynExpr_run n) x d (0, node + 1) true else syn_expr_j1 n (SynExpr_run n) x d (0, node + 1) (decide ((24 : Int) < x.Kind))) := by
          split <;> exact J1 _
        rw [← hP] at G
        exact G
      · have G : P (if x.Kind < 1 then syn_expr_j1 n (SynExpr_run n) x d (0, node + 1) true else syn_expr_j1 n (SynExpr_run n) x d (0, node + 1) (decide ((24 : Int) < x.Kind))) := by
          split
          · exact bad 1 (by decide)
          · rw [decide_eq_true (show 24 < x.Kind by omega)]
            exact bad 1 (by decide)
        rw [← hP] at G
        exact G
    · rw [if_pos c]
      exact ⟨e, _, rfl, by omega, fun h => absurd h c⟩
def OkS : Nat → TStat → Prop
  | 0, _ => False
  | k + 1, s => 1 ≤ s.Kind ∧ s.Kind ≤ 9 ∧ (s.Kind ≠ 6 → OkE k s.X) ∧ ((s.Kind = 3 ∨ s.Kind = 4) → s.Body.length ≤ 50 ∧ ∀ y ∈ s.Body, OkS k y) ∧ (s.Kind = 3 → s.Else.length ≤ 50 ∧ ∀ y ∈ s.Else, OkS k y)
def nS : Nat → TStat → Nat
  | 0, _ => 0
  | k + 1, s => 1 + (if s.Kind = 6 then 0 else nE k s.X) + (if s.Kind = 3 ∨ s.Kind = 4 then (s.Body.map (nS k)).sum else 0) + (if s.Kind = 3 then (s.Else.map (nS k)).sum else 0)
theorem syn_stat_t : ∀ (n : Nat), (∀ (l : List TStat) (d node : Int), 2 * (42 - d) + 65 ≤ n → 0 ≤ d → d ≤ 41 → 0 ≤ node → node ≤ 2000 →
      ∃ e k, (SynStat_run n).syn_stats node l d = some (e, k) ∧ node ≤ k ∧ (e = 0 → k ≤ 2000 ∧ (l.length ≤ 50 ∧ ∀ y ∈ l, OkS (41 - d).toNat y) ∧ k = node + ((l.map (nS (41 - d).toNat)).sum : Nat))) ∧
    (∀ (x : TStat) (d node : Int), 2 * (42 - d) + 64 ≤ n → 0 ≤ d → d ≤ 41 → 0 ≤ node → node ≤ 2000 →
      ∃ e k, (SynStat_run n).syn_stat node x d = some (e, k) ∧ node ≤ k ∧ (e = 0 → k ≤ 2000 ∧ OkS (41 - d).toNat x ∧ k = node + (nS (41 - d).toNat x : Nat))) := by
  intro n
  induction n with
  | zero => exact ⟨fun l d node h0 h1 h2 => by omega, fun l d node h0 h1 h2 => by omega⟩
  | succ n ih =>
    obtain ⟨ihl, ihs⟩ := ih
    refine ⟨fun l d node h0 h1 h2 h3 h4 => ?_, fun x d node h0 h1 h2 h3 h4 => ?_⟩
    · show ∃ e k, syn_stats (SynStat_run n) node l d = some (e, k) ∧ _
      rw [syn_stats]
      by_cases hl : (50 : Int) < l.length
      · rw [if_pos hl]; exact ⟨5, node, rfl, by omega, fun h => absurd h (by decide)⟩
      · rw [if_neg hl]
        have L : ∀ (m i : Nat) (c : Int), i ≤ l.length → l.length < m + i → 0 ≤ c → c ≤ 2000 →
            ∃ e k, syn_stats_l1 (SynStat_run n) l d m i c = some (e, k) ∧ c ≤ k ∧ (e = 0 → k ≤ 2000 ∧ (∀ y ∈ l.drop i, OkS (41 - d).toNat y) ∧ k = c + (((l.drop i).map (nS (41 - d).toNat)).sum : Nat)) := by
          intro m
          induction m with
          | zero => intro i c h1 h2; omega
          | succ m ihm =>
            intro i c g1 g2 g3 g4
            rw [syn_stats_l1]
            by_cases q : i < l.length
            · obtain ⟨e, k, e1, e2, e3⟩ := ihs l[i] d c (by omega) h1 h2 g3 g4
              rw [if_pos (by omega), at_nat, List.getElem?_eq_getElem q, bS, e1, bS]
              by_cases z : e = 0
              · subst z
                obtain ⟨f1, f2, f3⟩ := e3 rfl
                rw [if_neg (by simp), i64_ok (by omega), bS]
                obtain ⟨e', k', r1, r2, r3⟩ := ihm (i + 1) k q (by omega) (by omega) f1
                refine ⟨e', k', r1, by omega, fun hz => ?_⟩
                obtain ⟨s1, s2, s3⟩ := r3 hz
                refine ⟨s1, fun y hy => ?_, ?_⟩
                · rw [List.drop_eq_getElem_cons q] at hy
                  rcases List.mem_cons.1 hy with rfl | hy
                  · exact f2
                  · exact s2 y hy
                · rw [List.drop_eq_getElem_cons q, List.map_cons, List.sum_cons]
                  omega
              · rw [if_pos z]
                exact ⟨e, k, rfl, e2, fun h => absurd h z⟩
            · rw [if_neg (by omega), List.drop_eq_nil_of_le (by omega)]
              exact ⟨0, c, rfl, by omega, fun _ => ⟨g4, by simp, by simp⟩⟩
        obtain ⟨e, k, r1, r2, r3⟩ := L (l.length + 1) 0 node (by omega) (by omega) h3 h4
        refine ⟨e, k, r1, r2, fun hz => ?_⟩
        obtain ⟨s1, s2, s3⟩ := r3 hz
        rw [List.drop_zero] at s2 s3
        exact ⟨s1, ⟨by omega, s2⟩, s3⟩
    · show ∃ e k, syn_stat n (SynStat_run n) node x d = some (e, k) ∧ _
      obtain ⟨b, hb⟩ := lex_named_t n (by omega) x.Name
      obtain ⟨e, hn, he⟩ := syn_node_t node d h3 (by omega)
      rw [syn_stat, hn, bS]
      by_cases c : e = 0
      · subst c
        obtain ⟨hk, hd⟩ := he rfl
        rw [if_neg (by simp)]
        have hD : (41 - d).toNat = (40 - d).toNat + 1 := by omega
        have hD' : (41 - (d + 1)).toNat = (40 - d).toNat := by omega
        rw [hD]
        generalize hP : (fun o : Option (Int × Int) => ∃ e k, o = some (e, k) ∧ node ≤ k ∧ (e = 0 → k ≤ 2000 ∧ OkS ((40 - d).toNat + 1) x ∧ k = node + (nS ((40 - d).toNat + 1) x : Nat))) = P
        have bad : ∀ e c : Int, e ≠ 0 → node ≤ c → P (some (e, c)) := fun e c h hc => by rw [← hP]; exact ⟨e, _, rfl, hc, fun h' => absurd h' h⟩
        have kids := fun (l : List TStat) (c : Int) (hc : node ≤ c) (hc' : c ≤ 2000) => ihl l (d + 1) c (by omega) (by omega) (by omega) (by omega) hc'
        rw [hD'] at kids
        have G : P (if x.Kind < 1 then syn_stat_j1 n (SynStat_run n) x d (0, node + 1) true else syn_stat_j1 n (SynStat_run n) x d (0, node + 1) (decide ((9 : Int) < x.Kind))) := by
          by_cases kd : 1 ≤ x.Kind ∧ x.Kind ≤ 9
          · have J4 : ∀ (c : Int), node ≤ c → c ≤ 2000 → x.Kind ≠ 6 → OkE (40 - d).toNat x.X → ((x.Kind = 3 ∨ x.Kind = 4) → x.Body.length ≤ 50 ∧ ∀ y ∈ x.Body, OkS (40 - d).toNat y) →
                c = node + 1 + (nE (40 - d).toNat x.X : Nat) + ((if x.Kind = 3 ∨ x.Kind = 4 then (x.Body.map (nS (40 - d).toNat)).sum else 0 : Nat) : Int) → P (syn_stat_j4 (SynStat_run n) x d c) := by
              intro c g1 g2 k6 gx gb gc
              rw [syn_stat_j4]
              by_cases k3 : x.Kind = 3
              · obtain ⟨e, k, r1, r2, r3⟩ := kids x.Else c g1 g2
                rw [if_pos k3, i64_ok (by omega), bS, r1, bS]
                rw [← hP]
                refine ⟨e, k, rfl, by omega, fun hz => ?_⟩
                obtain ⟨s1, s2, s3⟩ := r3 hz
                refine ⟨s1, ⟨kd.1, kd.2, fun _ => gx, gb, fun _ => s2⟩, ?_⟩
                rw [nS, if_neg k6, if_pos k3]
                omega
              · rw [if_neg k3, ← hP]
                refine ⟨0, c, rfl, g1, fun _ => ⟨g2, ⟨kd.1, kd.2, fun _ => gx, gb, fun h => absurd h k3⟩, ?_⟩⟩
                rw [nS, if_neg k6, if_neg k3]
                omega
            have J3 : ∀ (c : Int) b, node ≤ c → c ≤ 2000 → x.Kind ≠ 6 → OkE (40 - d).toNat x.X → (b = true ↔ x.Kind = 3 ∨ x.Kind = 4) → c = node + 1 + (nE (40 - d).toNat x.X : Nat) → P (syn_stat_j3 (SynStat_run n) x d (0, c) b) := by
              intro c b g1 g2 k6 gx gb gc
              rw [syn_stat_j3]
              by_cases q : b = true
              · obtain ⟨e, k, r1, r2, r3⟩ := kids x.Body c g1 g2
                rw [if_pos q, i64_ok (by omega), bS, r1, bS]
                by_cases z : e = 0
                · subst z
                  obtain ⟨s1, s2, s3⟩ := r3 rfl
                  rw [if_neg (by simp)]
                  exact J4 k (by omega) s1 k6 gx (fun _ => s2) (by rw [if_pos (gb.1 q)]; omega)
                · rw [if_pos z]
                  exact bad e k z (by omega)
              · rw [if_neg q]
                exact J4 c g1 g2 k6 gx (fun h => absurd (gb.2 h) q) (by rw [if_neg fun h => q (gb.2 h)]; omega)
            have J2 : ∀ b, P (syn_stat_j2 n (SynStat_run n) x d (0, node + 1) b) := by
              intro b
              cases b with
              | true => exact bad 7 _ (by decide) (by omega)
              | false =>
                rw [syn_stat_j2, if_neg (by decide)]
                by_cases k6 : x.Kind = 6
                · rw [if_pos k6, ← hP]
                  refine ⟨0, node + 1, rfl, by omega, fun _ => ⟨by omega, ⟨kd.1, kd.2, fun h => absurd k6 h, fun h => by omega, fun h => by omega⟩, ?_⟩⟩
                  rw [nS, if_pos k6, if_neg (by omega), if_neg (by omega)]
                  omega
                · obtain ⟨e, k, r1, r2, r3⟩ := syn_expr_t n x.X (d + 1) (node + 1) (by omega) (by omega) (by omega) (by omega) (by omega)
                  rw [hD'] at r3
                  rw [if_neg k6, i64_ok (by omega), bS, r1, bS]
                  by_cases z : e = 0
                  · subst z
                    obtain ⟨s1, s2, s3⟩ := r3 rfl
                    rw [if_neg (by simp)]
                    split
                    · rename_i h3
                      exact J3 k true (by omega) s1 k6 s2 (by simp [h3]) (by omega)
                    · rename_i h3
                      exact J3 k _ (by omega) s1 k6 s2 (by simp [h3]) (by omega)
                  · rw [if_pos z]
                    exact bad e k z (by omega)
            have J1 : ∀ b, P (syn_stat_j1 n (SynStat_run n) x d (0, node + 1) b) := by
              intro b'
              cases b' with
              | true => exact bad 1 _ (by decide) (by omega)
              | false =>
                rw [syn_stat_j1, if_neg (by decide), hb]
                simp only [bS]
                split
                · exact J2 _
                · split
                  · exact J2 _
                  · split <;> exact J2 _
            split <;> exact J1 _
          · split
            · exact bad 1 _ (by decide) (by omega)
            · rw [decide_eq_true (show 9 < x.Kind by omega)]
              exact bad 1 _ (by decide) (by omega)
        rw [← hP] at G
        exact G
      · rw [if_pos c]
        exact ⟨e, _, rfl, by omega, fun h => absurd h c⟩
def OkT (t : TType) : Prop := 1 ≤ t.Kind ∧ t.Kind ≤ 3
theorem syn_typ_t (fu : Nat) (hf : 20 ≤ fu) (t : TType) : ∃ e, syn_typ fu t = some e ∧ (e = 0 → OkT t) := by
  obtain ⟨b, hb⟩ := lex_named_t fu hf t.Gen
  rw [syn_typ]
  by_cases c : 1 ≤ t.Kind ∧ t.Kind ≤ 3
  · rw [if_neg (by omega), decide_eq_false (by omega), syn_typ_j1, if_neg (by decide), hb]
    simp only [bS]
    have : ∀ b, ∃ e, syn_typ_j2 b = some e := fun b => by cases b <;> exact ⟨_, rfl⟩
    split
    · obtain ⟨e, he⟩ := this (!b); exact ⟨e, he, fun _ => c⟩
    · obtain ⟨e, he⟩ := this false; exact ⟨e, he, fun _ => c⟩
  · split
    · exact ⟨1, rfl, fun h => absurd h (by decide)⟩
    · rw [decide_eq_true (show 3 < t.Kind by omega)]
      exact ⟨1, rfl, fun h => absurd h (by decide)⟩
structure OkD (x : TDef) : Prop where
  k1 : 1 ≤ x.Kind
  k4 : x.Kind ≤ 4
  ps : x.Kind = 2 ∨ x.Kind = 3 → x.Params.length ≤ 6 ∧ ∀ p ∈ x.Params, OkT p.Typ
  tk : x.Kind = 3 → OkT x.Takes
  ty : x.Kind ≠ 4 → OkT x.Typ
  bl : x.Kind ≠ 1 → x.Body.length ≤ 50
  bo : x.Kind ≠ 1 → ∀ y ∈ x.Body, OkS 39 y
def nD (x : TDef) : Nat := 1 + if x.Kind ≠ 1 then (x.Body.map (nS 39)).sum else 0
theorem syn_def_t (fu : Nat) (hf : 200 ≤ fu) (x : TDef) (node : Int) (h3 : 0 ≤ node) (h4 : node ≤ 2000) : ∃ e k, syn_def fu node x = some (e, k) ∧ node ≤ k ∧ (e = 0 → k ≤ 2000 ∧ OkD x ∧ k = node + (nD x : Nat)) := by
  obtain ⟨b, hb⟩ := lex_named_t fu (by omega) x.Name
  obtain ⟨e, hn, he⟩ := syn_node_t node 1 h3 (by omega)
  rw [syn_def, hn, bS]
  by_cases c : e = 0
  · subst c
    obtain ⟨hk, hd⟩ := he rfl
    rw [if_neg (by simp)]
    generalize hP : (fun o : Option (Int × Int) => ∃ e k, o = some (e, k) ∧ node ≤ k ∧ (e = 0 → k ≤ 2000 ∧ OkD x ∧ k = node + (nD x : Nat))) = P
    have bad : ∀ e c : Int, e ≠ 0 → node ≤ c → P (some (e, c)) := fun e c h hc => by rw [← hP]; exact ⟨e, _, rfl, hc, fun h' => absurd h' h⟩
    have G : P (if x.Kind < 1 then syn_def_j1 fu x (0, node + 1) true else syn_def_j1 fu x (0, node + 1) (decide ((4 : Int) < x.Kind))) := by
      by_cases kd : 1 ≤ x.Kind ∧ x.Kind ≤ 4
      · have J5 : (x.Kind = 2 ∨ x.Kind = 3 → x.Params.length ≤ 6 ∧ ∀ p ∈ x.Params, OkT p.Typ) → (x.Kind = 3 → OkT x.Takes) → (x.Kind ≠ 4 → OkT x.Typ) → P (syn_def_j5 fu x (0, node + 1)) := by
          intro g1 g2 g3
          rw [syn_def_j5]
          by_cases k1 : x.Kind = 1
          · rw [if_neg (by simpa using k1)]
            have J6 : ∀ b, P (syn_def_j6 (0, node + 1) b) := by
              intro b
              cases b with
              | true => exact bad 3 _ (by decide) (by omega)
              | false =>
                rw [← hP]
                exact ⟨0, node + 1, rfl, by omega, fun _ => ⟨by omega, ⟨kd.1, kd.2, g1, g2, g3, fun h => absurd k1 h, fun h => absurd k1 h⟩, by rw [nD, if_neg (by simpa using k1)]; omega⟩⟩
            split <;> exact J6 _
          · obtain ⟨e, k, r1, r2, r3⟩ := (syn_stat_t fu).1 x.Body 2 (node + 1) (by omega) (by omega) (by omega) (by omega) (by omega)
            rw [if_pos k1, r1, bS, ← hP]
            refine ⟨e, k, rfl, by omega, fun hz => ?_⟩
            obtain ⟨s1, s2, s3⟩ := r3 hz
            exact ⟨s1, ⟨kd.1, kd.2, g1, g2, g3, fun _ => s2.1, fun _ => s2.2⟩, by rw [nD, if_pos k1]; rw [show (41 - (2 : Int)).toNat = 39 from rfl] at s3; omega⟩
        have J4 : (x.Kind = 2 ∨ x.Kind = 3 → x.Params.length ≤ 6 ∧ ∀ p ∈ x.Params, OkT p.Typ) → (x.Kind = 3 → OkT x.Takes) → P (syn_def_j4 fu x (0, node + 1)) := by
          intro g1 g2
          rw [syn_def_j4]
          by_cases k4 : x.Kind = 4
          · rw [if_neg (by simpa using k4)]
            exact J5 g1 g2 fun h => absurd k4 h
          · obtain ⟨e, h1, h2⟩ := syn_typ_t fu (by omega) x.Typ
            rw [if_pos k4, h1, bS]
            by_cases z : e = 0
            · rw [if_neg (by simpa using z)]; exact J5 g1 g2 fun _ => h2 z
            · rw [if_pos z]; exact bad e _ z (by omega)
        have J3 : (x.Kind = 2 ∨ x.Kind = 3 → x.Params.length ≤ 6 ∧ ∀ p ∈ x.Params, OkT p.Typ) → P (syn_def_j3 fu x (0, node + 1)) := by
          intro g1
          rw [syn_def_j3]
          by_cases k3 : x.Kind = 3
          · obtain ⟨e, h1, h2⟩ := syn_typ_t fu (by omega) x.Takes
            rw [if_pos k3, h1, bS]
            by_cases z : e = 0
            · rw [if_neg (by simpa using z)]; exact J4 g1 fun _ => h2 z
            · rw [if_pos z]; exact bad e _ z (by omega)
          · rw [if_neg k3]
            exact J4 g1 fun h => absurd h k3
        have L : x.Params.length ≤ 6 → ∀ (m i : Nat), i ≤ x.Params.length → x.Params.length < m + i → (∀ p ∈ x.Params.take i, OkT p.Typ) → P (syn_def_l1 fu x (0, node + 1) m i) := by
          intro hl m
          induction m with
          | zero => intro i h1 h2; omega
          | succ m ihm =>
            intro i g1 g2 g3
            rw [syn_def_l1]
            by_cases q : i < x.Params.length
            · obtain ⟨b', hb'⟩ := lex_named_t fu (by omega) x.Params[i].Name
              obtain ⟨e, h1, h2⟩ := syn_typ_t fu (by omega) x.Params[i].Typ
              rw [if_pos (by omega), at_nat, List.getElem?_eq_getElem q, bS, hb', bS]
              cases b' with
              | false => rw [if_neg (by decide)]; exact bad 7 _ (by decide) (by omega)
              | true =>
                rw [if_pos rfl, h1, bS]
                by_cases z : e = 0
                · rw [if_neg (by simpa using z), i64_ok (by omega), bS]
                  refine ihm (i + 1) q (by omega) fun p hp => ?_
                  rw [List.take_succ_eq_append_getElem q] at hp
                  rcases List.mem_append.1 hp with hp | hp
                  · exact g3 p hp
                  · rw [List.mem_singleton.1 hp]; exact h2 z
                · rw [if_pos z]; exact bad e _ z (by omega)
            · rw [if_neg (by omega)]
              rw [List.take_of_length_le (by omega)] at g3
              exact J3 fun _ => ⟨hl, g3⟩
        have J2 : ∀ b, (b = true ↔ x.Kind = 2 ∨ x.Kind = 3) → P (syn_def_j2 fu x (0, node + 1) b) := by
          intro b g
          rw [syn_def_j2]
          by_cases q : b = true
          · rw [if_pos q]
            by_cases hl : (6 : Int) < x.Params.length
            · rw [if_pos hl]; exact bad 5 _ (by decide) (by omega)
            · rw [if_neg hl]
              exact L (by omega) (x.Params.length + 1) 0 (by omega) (by omega) (by simp)
          · rw [if_neg q]
            exact J3 fun h => absurd (g.2 h) q
        have J1 : ∀ b, P (syn_def_j1 fu x (0, node + 1) b) := by
          intro b'
          cases b' with
          | true => exact bad 1 _ (by decide) (by omega)
          | false =>
            rw [syn_def_j1, if_neg (by decide), hb, bS]
            cases b with
            | false => rw [if_neg (by decide)]; exact bad 7 _ (by decide) (by omega)
            | true =>
              rw [if_pos rfl]
              split
              · rename_i h2; exact J2 _ (by simp [h2])
              · rename_i h2; exact J2 _ (by simp [h2])
        split <;> exact J1 _
      · split
        · exact bad 1 _ (by decide) (by omega)
        · rw [decide_eq_true (show 4 < x.Kind by omega)]
          exact bad 1 _ (by decide) (by omega)
    rw [← hP] at G
    exact G
  · rw [if_pos c]
    exact ⟨e, _, rfl, by omega, fun h => absurd h c⟩
structure OkP (l : List TDef) : Prop where
  le : l.length ≤ 30
  ok : ∀ d ∈ l, OkD d
  n : (l.map nD).sum ≤ 2000
theorem syn_wrong_t (fu : Nat) (hf : 200 ≤ fu) (l : List TDef) : ∃ f, syn_wrong fu l = some f ∧ (f.Err = 0 → f.At = 0 ∧ OkP l) := by
  rw [syn_wrong]
  by_cases hl : (30 : Int) < l.length
  · rw [if_pos hl]; exact ⟨_, rfl, fun h => absurd h (by decide : (5 : Int) ≠ 0)⟩
  · rw [if_neg hl]
    have L : ∀ (m i : Nat) (c : Int), i ≤ l.length → l.length < m + i → 0 ≤ c → c ≤ 2000 → (∀ d ∈ l.take i, OkD d) → c = (((l.take i).map nD).sum : Nat) → ∃ f, syn_wrong_l1 fu l m i c = some f ∧ (f.Err = 0 → f.At = 0 ∧ OkP l) := by
      intro m
      induction m with
      | zero => intro i c h1 h2; omega
      | succ m ihm =>
        intro i c g1 g2 g3 g4 g5 g6
        rw [syn_wrong_l1]
        by_cases q : i < l.length
        · obtain ⟨e, k, e1, e2, e3⟩ := syn_def_t fu hf l[i] c g3 g4
          rw [if_pos (by omega), at_nat, List.getElem?_eq_getElem q, bS, e1, bS]
          by_cases z : e = 0
          · subst z
            obtain ⟨f1, f2, f3⟩ := e3 rfl
            rw [if_neg (by simp), i64_ok (by omega), bS]
            refine ihm (i + 1) k q (by omega) (by omega) f1 (fun p hp => ?_) ?_
            · rw [List.take_succ_eq_append_getElem q] at hp
              rcases List.mem_append.1 hp with hp | hp
              · exact g5 p hp
              · rw [List.mem_singleton.1 hp]; exact f2
            · rw [List.take_succ_eq_append_getElem q, List.map_append, List.sum_append, List.map_cons, List.map_nil, List.sum_cons, List.sum_nil]
              omega
          · rw [if_pos z]
            exact ⟨_, rfl, fun h => absurd h z⟩
        · rw [if_neg (by omega)]
          rw [List.take_of_length_le (by omega)] at g5 g6
          exact ⟨_, rfl, fun _ => ⟨rfl, by omega, g5, by omega⟩⟩
    exact L (l.length + 1) 0 0 (by omega) (by omega) (by omega) (by omega) (by simp) (by simp)
end Go.Y
namespace Go.Y
open Go.Wk Go.Xt
abbrev Bl := List (List (List UInt8 × TType))
def bareT (t : TType) : TType := if t.Kind ≠ 3 then ⟨t.Kind, []⟩ else t
theorem sema_plain_e (t : TType) : sema_plain t = some (decide (t.Kind ≠ 3)) := rfl
theorem sema_bare_e (t : TType) : sema_bare t = some (bareT t) := by
  rw [sema_bare, sema_plain_e, bS, bareT]
  by_cases c : t.Kind ≠ 3
  · rw [decide_eq_true c, if_pos rfl, if_pos c]; rfl
  · rw [decide_eq_false c, if_neg (by decide), if_neg c]; rfl
def isK (o : Option TDef) (k : Int) : Bool := match o with | some d => decide (d.Kind = k) | none => false
theorem sema_find_e (p : TSp) (kind : Int) (name : List UInt8) : sema_find p kind name = some (mget p.named name, isK (mget p.named name) kind) := by
  rw [sema_find]
  cases h : mget p.named name with
  | none => rfl
  | some d => rfl
theorem isK_t {o : Option TDef} {k : Int} (h : isK o k = true) : ∃ d, o = some d ∧ d.Kind = k := by
  cases o with
  | none => cases h
  | some d => exact ⟨d, rfl, of_decide_eq_true h⟩
def TyOk (p : TSp) (t : TType) : Prop := t.Kind = 3 → ∃ d, mget p.named t.Gen = some d ∧ d.Kind = 3
theorem TyOk.bare {p : TSp} {t : TType} (h : TyOk p t) : TyOk p (bareT t) := by
  unfold bareT
  split
  · rename_i c; exact fun h3 => absurd h3 c
  · exact h
theorem TyOk.of {p : TSp} {t : TType} (h : t.Kind ≠ 3) : TyOk p t := fun h3 => absurd h3 h
theorem bareT_kind {t : TType} : (bareT t).Kind = t.Kind := by
  unfold bareT
  split <;> rfl
structure HeadOk (p : TSp) (d : TDef) : Prop where
  ty : d.Kind ≠ 4 → d.Typ.Kind ≠ 3
  tk : d.Kind = 3 → d.Takes.Kind ≠ 3
  ps : d.Kind = 2 ∨ d.Kind = 3 → ∀ q ∈ d.Params, TyOk p q.Typ
  pl : d.Kind = 2 ∨ d.Kind = 3 → d.Params.length ≤ 6
def Pg (p : TSp) : Prop := ∀ k d, mget p.named k = some d → HeadOk p d
def ScOk (p : TSp) (B : Bl) : Prop := ∀ m ∈ B, ∀ k t, mget m k = some t → TyOk p t
structure EH (p : TSp) (d : TDef) (B : Bl) : Prop where
  pg : Pg p
  hd : HeadOk p d
  sc : ScOk p B
  bl : B.length ≤ 100
theorem sema_look_t {p : TSp} {B : Bl} (hB : ScOk p B) (hl : B.length ≤ 100) (fu : Nat) (hf : 110 ≤ fu) (d : TDef) (name : List UInt8) : ∃ t b, sema_look fu p d B name = some (t, b) ∧ (b = true → TyOk p t) := by
  have L : ∀ (n j : Nat), j ≤ B.length → j < n → ∃ t b, sema_look_l1 name B n ((j : Int) - 1) = some (t, b) ∧ (b = true → TyOk p t) := by
    intro n
    induction n with
    | zero => intro j h1 h2; omega
    | succ n ih =>
      intro j h1 h2
      rw [sema_look_l1]
      cases j with
      | zero => rw [if_neg (by omega)]; exact ⟨_, _, rfl, by simp⟩
      | succ j =>
        have e : ((j + 1 : Nat) : Int) - 1 = (j : Int) := by omega
        rw [e, if_pos (by omega), at_nat, List.getElem?_eq_getElem (show j < B.length by omega), bS]
        cases h : mget B[j] name with
        | none =>
          rw [if_neg (by simp), i64_ok (by omega), bS]
          exact ih j (by omega) (by omega)
        | some t => exact ⟨t, true, rfl, fun _ => hB _ (List.getElem_mem _) _ _ h⟩
  rw [sema_look, i64_ok (by omega), bS]
  exact L fu B.length (by omega) (by omega)
def Calls (p : TSp) : Nat → TExpr → Prop
  | 0, _ => False
  | k + 1, x => (x.Kind = 19 → ∃ d, mget p.named x.Name = some d ∧ d.Kind = 2) ∧ (x.Kind = 22 → ∃ d, mget p.named x.Name = some d ∧ d.Kind = 3) ∧ (x.Kind = 20 → ∃ d, mget p.named x.Name = some d ∧ d.Kind = 1) ∧ ∀ y ∈ x.Kids, Calls p k y
theorem two {α : Type} {l : List α} (h : l.length = 2) : ∃ a b, l = [a, b] := by
  match l, h with
  | [a, b], _ => exact ⟨a, b, rfl⟩
theorem one {α : Type} {l : List α} (h : l.length = 1) : ∃ a, l = [a] := by
  match l, h with
  | [a], _ => exact ⟨a, rfl⟩
structure SemaT (n : Nat) : Prop where
  typed : ∀ (k : Nat) (p : TSp) (d : TDef) (B : Bl) (x : TExpr) (t : TType), EH p d B → OkE k x → 3 * k + 111 ≤ n → ∃ e, (SemaE_run n).sema_typed p d B x t = some e ∧ (e = 0 → Calls p k x)
  args : ∀ (k : Nat) (p : TSp) (d : TDef) (B : Bl) (x : TExpr) (kind : Int), EH p d B → (∀ y ∈ x.Kids, OkE k y) → x.Kids.length ≤ 6 → (kind = 2 ∨ kind = 3) → 3 * k + 112 ≤ n →
    ∃ od e, (SemaE_run n).sema_args p d B x kind = some (od, e) ∧ (e = 0 → ∃ f, od = some f ∧ mget p.named x.Name = some f ∧ f.Kind = kind ∧ ∀ y ∈ x.Kids, Calls p k y)
  both : ∀ (k : Nat) (p : TSp) (d : TDef) (B : Bl) (x a b : TExpr), EH p d B → x.Kids = [a, b] → OkE k a → OkE k b → 3 * k + 112 ≤ n → ∃ t e, (SemaE_run n).sema_both p d B x = some (t, e) ∧ (e = 0 → Calls p k a ∧ Calls p k b)
  handle : ∀ (k : Nat) (p : TSp) (d : TDef) (B : Bl) (x : TExpr), EH p d B → OkE k x → 3 * k + 112 ≤ n → ∃ od e, (SemaE_run n).sema_handle p d B x = some (od, e) ∧ (e = 0 → (∃ f g, od = some f ∧ mget p.named g = some f ∧ f.Kind = 3) ∧ Calls p k x)
  expr : ∀ (k : Nat) (p : TSp) (d : TDef) (B : Bl) (x : TExpr), EH p d B → OkE k x → 3 * k + 110 ≤ n → ∃ t e, (SemaE_run n).sema_expr p d B x = some (t, e) ∧ (e = 0 → TyOk p t ∧ Calls p k x)
theorem sema_typed_j1_e (r : TType × Int) (b : Bool) : sema_typed_j1 r b = some (if b = true then 9 else r.2) := by cases b <;> rfl
theorem sema_both_j1_e (r s : TType × Int) (b : Bool) : sema_both_j1 r s b = some (r.1, if b = true then 9 else s.2) := by cases b <;> rfl
theorem sema_t : ∀ n, SemaT n := by
  intro n
  induction n with
  | zero => exact ⟨fun _ _ _ _ _ _ _ _ h => by omega, fun _ _ _ _ _ _ _ _ _ _ h => by omega, fun _ _ _ _ _ _ _ _ _ _ _ h => by omega, fun _ _ _ _ _ _ _ h => by omega, fun _ _ _ _ _ _ _ h => by omega⟩
  | succ n ih =>
    refine ⟨fun k p d B x t H hx hn => ?_, fun k p d B x kind H hx hl hk hn => ?_, fun k p d B x a b H hx ha hb hn => ?_, fun k p d B x H hx hn => ?_, fun k p d B x H hx hn => ?_⟩
    · show ∃ e, sema_typed (SemaE_run n) p d B x t = some e ∧ _
      obtain ⟨t', e, h1, h2⟩ := ih.expr k p d B x H hx (by omega)
      rw [sema_typed, h1, bS]
      by_cases z : e = 0
      · rw [if_pos z, sema_bare_e, bS, sema_typed_j1_e]
        exact ⟨_, rfl, fun _ => (h2 z).2⟩
      · rw [if_neg z, sema_typed_j1_e]
        exact ⟨e, rfl, fun h => absurd h z⟩
    · show ∃ od e, sema_args (SemaE_run n) p d B x kind = some (od, e) ∧ _
      rw [sema_args, sema_find_e, bS]
      by_cases c : isK (mget p.named x.Name) kind = true
      · obtain ⟨f, hf, fk⟩ := isK_t c
        rw [if_pos c, hf]
        simp only [bS]
        have hp := H.pg _ _ hf
        have hpl := hp.pl (by omega)
        by_cases q : (f.Params.length : Int) ≠ x.Kids.length
        · rw [decide_eq_true q]; exact ⟨none, 5, rfl, fun h => absurd h (by decide)⟩
        · rw [decide_eq_false q, sema_args_j1, if_neg (by decide)]
          simp only [bS]
          have L : ∀ (m i : Nat), i ≤ f.Params.length → f.Params.length < m + i → ∃ od e, sema_args_l1 (SemaE_run n) x p d B (some f, isK (some f) kind) f m i = some (od, e) ∧ (e = 0 → od = some f ∧ ∀ y ∈ x.Kids.drop i, Calls p k y) := by
            intro m
            induction m with
            | zero => intro i h1 h2; omega
            | succ m ihm =>
              intro i h1 h2
              rw [sema_args_l1]
              by_cases c : i < f.Params.length
              · have hi : i < x.Kids.length := by omega
                obtain ⟨e, e1, e2⟩ := ih.typed k p d B x.Kids[i] f.Params[i].Typ H (hx _ (List.getElem_mem _)) (by omega)
                rw [if_pos (by omega), at_nat, List.getElem?_eq_getElem c, bS, at_nat, List.getElem?_eq_getElem hi, bS, e1, bS]
                by_cases z : e = 0
                · rw [if_neg (by simpa using z), i64_ok (by omega), bS]
                  obtain ⟨od, e', r1, r2⟩ := ihm (i + 1) c (by omega)
                  refine ⟨od, e', r1, fun hz => ⟨(r2 hz).1, fun y hy => ?_⟩⟩
                  rw [List.drop_eq_getElem_cons hi] at hy
                  rcases List.mem_cons.1 hy with rfl | hy
                  · exact e2 z
                  · exact (r2 hz).2 y hy
                · rw [if_pos z]; exact ⟨none, e, rfl, fun h => absurd h z⟩
              · rw [if_neg (by omega), List.drop_eq_nil_of_le (by omega)]
                exact ⟨some f, 0, rfl, fun _ => ⟨rfl, by simp⟩⟩
          obtain ⟨od, e, r1, r2⟩ := L (f.Params.length + 1) 0 (by omega) (by omega)
          refine ⟨od, e, r1, fun hz => ?_⟩
          obtain ⟨s1, s2⟩ := r2 hz
          rw [List.drop_zero] at s2
          exact ⟨f, s1, rfl, fk, s2⟩
      · rw [if_neg c]
        exact ⟨none, 7, rfl, fun h => absurd h (by decide)⟩
    · show ∃ t e, sema_both (SemaE_run n) p d B x = some (t, e) ∧ _
      obtain ⟨t1, e1, h1, h2⟩ := ih.expr k p d B a H ha (by omega)
      obtain ⟨t2, e2, g1, g2⟩ := ih.expr k p d B b H hb (by omega)
      have k0 : at_ x.Kids 0 = some a := by rw [hx]; rfl
      have k1 : at_ x.Kids 1 = some b := by rw [hx]; rfl
      rw [sema_both, k0, bS, h1, bS]
      by_cases z : e1 = 0
      · rw [if_neg (by simpa using z), k1, bS, g1, bS]
        by_cases z2 : e2 = 0
        · have fin : ∀ b', ∃ t e, sema_both_j1 (t1, e1) (t2, e2) b' = some (t, e) ∧ (e = 0 → Calls p k a ∧ Calls p k b) := fun b' => by rw [sema_both_j1_e]; exact ⟨_, _, rfl, fun _ => ⟨(h2 z).2, (g2 z2).2⟩⟩
          rw [if_pos z2]
          split
          · rw [sema_plain_e, bS]; exact fin _
          · exact fin _
        · rw [if_neg z2, sema_both_j1_e]
          exact ⟨_, e2, rfl, fun h => absurd h z2⟩
      · rw [if_pos z]
        exact ⟨_, e1, rfl, fun h => absurd h z⟩
    · show ∃ od e, sema_handle (SemaE_run n) p d B x = some (od, e) ∧ _
      obtain ⟨t, e, h1, h2⟩ := ih.expr k p d B x H hx (by omega)
      rw [sema_handle, h1, bS]
      by_cases z : e = 0
      · rw [if_neg (by simpa using z), sema_plain_e, bS]
        by_cases q : t.Kind ≠ 3
        · rw [if_pos (decide_eq_true q)]; exact ⟨none, 9, rfl, fun h => absurd h (by decide)⟩
        · obtain ⟨f, f1, f2⟩ := (h2 z).1 (Decidable.not_not.1 q)
          rw [if_neg (by simpa using q)]
          exact ⟨_, 0, rfl, fun _ => ⟨⟨f, t.Gen, f1, f1, f2⟩, (h2 z).2⟩⟩
      · rw [if_pos z]
        exact ⟨none, e, rfl, fun h => absurd h z⟩
    · show ∃ t e, sema_expr n (SemaE_run n) p d B x = some (t, e) ∧ _
      cases k with
      | zero => cases hx
      | succ k =>
      obtain ⟨k1, k24, hk, hks⟩ := hx
      have kl : kidN x.Kind = 1 → ∃ a, x.Kids = [a] ∧ OkE k a := fun h => by
        obtain ⟨a, ha⟩ := one (l := x.Kids) (by have := hk.eq (by omega); omega)
        exact ⟨a, ha, hks a (by simp [ha])⟩
      have kl2 : kidN x.Kind = 2 → ∃ a b, x.Kids = [a, b] ∧ OkE k a ∧ OkE k b := fun h => by
        obtain ⟨a, b, ha⟩ := two (l := x.Kids) (by have := hk.eq (by omega); omega)
        exact ⟨a, b, ha, hks a (by simp [ha]), hks b (by simp [ha])⟩
      have kl0 : kidN x.Kind = 0 → x.Kids = [] := fun h => List.length_eq_zero_iff.1 (by have := hk.eq (by omega); omega)
      have ca : x.Kind ≠ 19 → x.Kind ≠ 20 → x.Kind ≠ 22 → (∀ y ∈ x.Kids, Calls p k y) → Calls p (k + 1) x := fun h1 h2 h3 h4 => ⟨fun h => absurd h h1, fun h => absurd h h3, fun h => absurd h h2, h4⟩
      rw [sema_expr]
      by_cases c1 : x.Kind = 1
      · rw [if_pos c1]
        exact ⟨_, 0, rfl, fun _ => ⟨.of (by decide), ca (by omega) (by omega) (by omega) (by rw [kl0 (by rw [c1]; rfl)]; simp)⟩⟩
      rw [if_neg c1]
      by_cases c2 : x.Kind = 2
      · rw [if_pos c2]
        exact ⟨_, 0, rfl, fun _ => ⟨.of (by decide), ca (by omega) (by omega) (by omega) (by rw [kl0 (by rw [c2]; rfl)]; simp)⟩⟩
      rw [if_neg c2]
      by_cases c3 : x.Kind = 3
      · obtain ⟨t, b, h1, h2⟩ := sema_look_t H.sc H.bl n (by omega) d x.Name
        rw [if_pos c3, h1, bS]
        cases b with
        | true => exact ⟨t, 0, rfl, fun _ => ⟨h2 rfl, ca (by omega) (by omega) (by omega) (by rw [kl0 (by rw [c3]; rfl)]; simp)⟩⟩
        | false => exact ⟨_, 7, rfl, fun h => absurd h (by decide)⟩
      rw [if_neg c3]
      by_cases c4 : x.Kind = 4
      · obtain ⟨a, ha, ho⟩ := kl (by rw [c4]; rfl)
        obtain ⟨e, e1, e2⟩ := ih.typed k p d B a ⟨1, []⟩ H ho (by omega)
        have k0 : at_ x.Kids 0 = some a := by rw [ha]; rfl
        rw [if_pos c4, sema_num, bS, k0, bS, bS, e1, bS]
        exact ⟨_, e, rfl, fun hz => ⟨.of (by decide), ca (by omega) (by omega) (by omega) (by rw [ha]; simpa using e2 hz)⟩⟩
      rw [if_neg c4]
      by_cases c5 : x.Kind = 5
      · obtain ⟨a, ha, ho⟩ := kl (by rw [c5]; rfl)
        obtain ⟨e, e1, e2⟩ := ih.typed k p d B a ⟨2, []⟩ H ho (by omega)
        have k0 : at_ x.Kids 0 = some a := by rw [ha]; rfl
        rw [if_pos c5, sema_boolean, bS, k0, bS, bS, e1, bS]
        exact ⟨_, e, rfl, fun hz => ⟨.of (by decide), ca (by omega) (by omega) (by omega) (by rw [ha]; simpa using e2 hz)⟩⟩
      rw [if_neg c5]
      have J3 : ∀ b, (b = true ↔ x.Kind = 11 ∨ x.Kind = 12) → ∃ t e, sema_expr_j3 (SemaE_run n) x p d B b = some (t, e) ∧ (e = 0 → TyOk p t ∧ Calls p (k + 1) x) := by
        intro b hb
        rw [sema_expr_j3]
        by_cases q : b = true
        · have c := hb.1 q
          obtain ⟨a, a', ha, o1, o2⟩ := kl2 (by rcases c with c | c <;> rw [c] <;> rfl)
          obtain ⟨t, e, h1, h2⟩ := ih.both k p d B x a a' H ha o1 o2 (by omega)
          rw [if_pos q, h1, bS, sema_boolean, bS]
          exact ⟨_, e, rfl, fun hz => ⟨.of (by decide), ca (by omega) (by omega) (by omega) (by rw [ha]; simpa using h2 hz)⟩⟩
        rw [if_neg q]
        have q1 : x.Kind ≠ 11 := fun h => q (hb.2 (.inl h))
        have q2 : x.Kind ≠ 12 := fun h => q (hb.2 (.inr h))
        by_cases c19 : x.Kind = 19
        · obtain ⟨od, e, h1, h2⟩ := ih.args k p d B x 2 H hks hk.le (.inl rfl) (by omega)
          rw [if_pos c19, h1, bS]
          by_cases z : e = 0
          · obtain ⟨f, rfl, g1, g2, g3⟩ := h2 z
            rw [if_neg (by simpa using z)]
            simp only [bS]
            rw [sema_bare_e, bS]
            exact ⟨_, 0, rfl, fun _ => ⟨.of (by rw [bareT_kind]; exact (H.pg _ _ g1).ty (by omega)), ⟨fun _ => ⟨f, g1, g2⟩, fun h => by omega, fun h => by omega, g3⟩⟩⟩
          · rw [if_pos z]
            exact ⟨_, e, rfl, fun h => absurd h z⟩
        rw [if_neg c19]
        by_cases c20 : x.Kind = 20
        · rw [if_pos c20, sema_find_e, bS]
          by_cases c : isK (mget p.named x.Name) 1 = true
          · obtain ⟨f, hf, fk⟩ := isK_t c
            rw [if_pos c, hf]
            simp only [bS]
            rw [sema_bare_e, bS]
            exact ⟨_, 0, rfl, fun _ => ⟨.of (by rw [bareT_kind]; exact (H.pg _ _ hf).ty (by omega)), ⟨fun h => by omega, fun h => by omega, fun _ => ⟨f, hf, fk⟩, by rw [kl0 (by rw [c20]; rfl)]; simp⟩⟩⟩
          · rw [if_neg c]
            exact ⟨_, 7, rfl, fun h => absurd h (by decide)⟩
        rw [if_neg c20]
        by_cases c21 : x.Kind = 21
        · obtain ⟨a, ha, ho⟩ := kl (by rw [c21]; rfl)
          obtain ⟨e, e1, e2⟩ := ih.typed k p d B a d.Typ H ho (by omega)
          have k0 : at_ x.Kids 0 = some a := by rw [ha]; rfl
          rw [if_pos c21]
          by_cases cd : d.Kind = 3
          · rw [if_neg (by simpa using cd), sema_bare_e, bS, k0, bS, e1, bS]
            exact ⟨_, e, rfl, fun hz => ⟨.of (by show (bareT d.Takes).Kind ≠ 3; rw [bareT_kind]; exact H.hd.tk cd), ca (by omega) (by omega) (by omega) (by rw [ha]; simpa using e2 hz)⟩⟩
          · rw [if_pos cd]
            exact ⟨_, 8, rfl, fun h => absurd h (by decide)⟩
        rw [if_neg c21]
        by_cases c22 : x.Kind = 22
        · obtain ⟨od, e, h1, h2⟩ := ih.args k p d B x 3 H hks hk.le (.inr rfl) (by omega)
          rw [if_pos c22, h1, bS]
          refine ⟨_, e, rfl, fun hz => ?_⟩
          obtain ⟨f, -, g1, g2, g3⟩ := h2 hz
          exact ⟨fun _ => ⟨f, g1, g2⟩, ⟨fun h => by omega, fun _ => ⟨f, g1, g2⟩, fun h => by omega, g3⟩⟩
        rw [if_neg c22]
        by_cases c23 : x.Kind = 23
        · obtain ⟨a, a', ha, o1, o2⟩ := kl2 (by rw [c23]; rfl)
          obtain ⟨od, e, h1, h2⟩ := ih.handle k p d B a H o1 (by omega)
          have k0 : at_ x.Kids 0 = some a := by rw [ha]; rfl
          have k1 : at_ x.Kids 1 = some a' := by rw [ha]; rfl
          rw [if_pos c23, k0, bS, h1, bS]
          by_cases z : e = 0
          · obtain ⟨⟨f, g, rfl, g1, g2⟩, g3⟩ := h2 z
            obtain ⟨e', r1, r2⟩ := ih.typed k p d B a' f.Takes H o2 (by omega)
            rw [if_neg (by simpa using z)]
            simp only [bS]
            rw [sema_bare_e, bS, k1, bS, r1, bS]
            exact ⟨_, e', rfl, fun hz => ⟨.of (by show (bareT f.Typ).Kind ≠ 3; rw [bareT_kind]; exact (H.pg _ _ g1).ty (by omega)), ca (by omega) (by omega) (by omega) (by rw [ha]; simpa using ⟨g3, r2 hz⟩)⟩⟩
          · rw [if_pos z]
            exact ⟨_, e, rfl, fun h => absurd h z⟩
        rw [if_neg c23]
        by_cases c24 : x.Kind = 24
        · obtain ⟨a, ha, ho⟩ := kl (by rw [c24]; rfl)
          obtain ⟨od, e, h1, h2⟩ := ih.handle k p d B a H ho (by omega)
          have k0 : at_ x.Kids 0 = some a := by rw [ha]; rfl
          rw [if_pos c24, k0, bS, h1, bS, sema_boolean, bS]
          exact ⟨_, e, rfl, fun hz => ⟨.of (by decide), ca (by omega) (by omega) (by omega) (by rw [ha]; simpa using (h2 hz).2)⟩⟩
        rw [if_neg c24]
        have L : ∀ (i1 i2 : Int) (s1 s2 : List UInt8) (m i : Nat), i ≤ x.Kids.length → x.Kids.length < m + i → ∃ e, sema_expr_l1 (SemaE_run n) x p d B i1 s1 i2 s2 m i = some (⟨i2, s2⟩, e) ∧ (e = 0 → ∀ y ∈ x.Kids.drop i, Calls p k y) := by
          intro i1 i2 s1 s2 m
          induction m with
          | zero => intro i h1 h2; omega
          | succ m ihm =>
            intro i h1 h2
            rw [sema_expr_l1]
            by_cases c : i < x.Kids.length
            · have := hk.le
              obtain ⟨e, e1, e2⟩ := ih.typed k p d B x.Kids[i] ⟨i1, s1⟩ H (hks _ (List.getElem_mem _)) (by omega)
              rw [if_pos (by omega), at_nat, List.getElem?_eq_getElem c, bS, e1, bS]
              by_cases z : e = 0
              · rw [if_neg (by simpa using z), i64_ok (by omega), bS]
                obtain ⟨e', r1, r2⟩ := ihm (i + 1) c (by omega)
                refine ⟨e', r1, fun hz y hy => ?_⟩
                rw [List.drop_eq_getElem_cons c] at hy
                rcases List.mem_cons.1 hy with rfl | hy
                · exact e2 z
                · exact r2 hz y hy
              · rw [if_pos z]; exact ⟨e, rfl, fun h => absurd h z⟩
            · rw [if_neg (by omega), List.drop_eq_nil_of_le (by omega)]
              exact ⟨0, rfl, fun _ => by simp⟩
        have J6 : ∀ (i1 i2 : Int) (s1 s2 : List UInt8), i2 ≠ 3 → ∃ t e, sema_expr_j6 (SemaE_run n) x p d B i1 s1 i2 s2 = some (t, e) ∧ (e = 0 → TyOk p t ∧ Calls p (k + 1) x) := by
          intro i1 i2 s1 s2 h
          obtain ⟨e, h1, h2⟩ := L i1 i2 s1 s2 (x.Kids.length + 1) 0 (by omega) (by omega)
          exact ⟨_, e, h1, fun hz => ⟨.of h, ca (by omega) (by omega) (by omega) (by simpa using h2 hz)⟩⟩
        rw [sema_num, bS, bS, sema_boolean]
        simp only [bS]
        split
        · exact J6 _ _ _ _ (by decide)
        · split
          · exact J6 _ _ _ _ (by decide)
          · exact J6 _ _ _ _ (by decide)
      split
      · rename_i h; exact J3 _ (by simp [h])
      · rename_i h; exact J3 _ (by simp [h])
end Go.Y
namespace Go.Y
open Go.Wk Go.Xt
theorem mget_mput {κ β : Type} [DecidableEq κ] : ∀ (m : List (κ × β)) (k k' : κ) (x : β), mget (mput m k x) k' = if k = k' then some x else mget m k'
  | [], k, k', x => rfl
  | (a, b) :: m, k, k', x => by
    rw [mput]
    by_cases c : a = k
    · subst c
      rw [if_pos rfl, mget, mget]
      by_cases d : a = k'
      · rw [if_pos d, if_pos d]
      · rw [if_neg d, if_neg d, if_neg d]
    · rw [if_neg c, mget, mget, mget_mput m k k' x]
      by_cases d : a = k'
      · rw [if_pos d, if_pos d, if_neg fun h => c (d.trans h.symm)]
      · rw [if_neg d, if_neg d]
def CallsS (p : TSp) : Nat → TStat → Prop
  | 0, _ => False
  | k + 1, s => (s.Kind ≠ 6 → Calls p k s.X) ∧ ((s.Kind = 3 ∨ s.Kind = 4) → ∀ y ∈ s.Body, CallsS p k y) ∧ (s.Kind = 3 → ∀ y ∈ s.Else, CallsS p k y) ∧ (s.Kind = 7 → ∃ d, mget p.named s.Name = some d ∧ d.Kind = 1)
theorem sema_pop_t (p : TSp) (d : TDef) (B : Bl) (h : 0 < B.length) (h2 : B.length ≤ 100) : sema_pop p d B = some (B.take (B.length - 1)) := by
  rw [sema_pop, i64_ok (by omega), bS, cut, if_pos (by omega), bS, sema_pop_j1]
  simp
structure SemaST (n : Nat) : Prop where
  stats : ∀ (k : Nat) (p : TSp) (d : TDef) (B : Bl) (l : List TStat), EH p d B → l.length ≤ 50 → (∀ y ∈ l, OkS k y) → B.length + k ≤ 90 → 5 * k + 130 ≤ n →
    ∃ e, (SemaS_run n).sema_stats p d B l = some (e, B) ∧ (e = 0 → ∀ y ∈ l, CallsS p k y)
  stat : ∀ (k : Nat) (p : TSp) (d : TDef) (B : Bl) (s : TStat), EH p d B → 0 < B.length → OkS k s → B.length + k ≤ 91 → 5 * k + 129 ≤ n →
    ∃ e B', (SemaS_run n).sema_stat p d B s = some (e, B') ∧ B'.length = B.length ∧ B'.take (B.length - 1) = B.take (B.length - 1) ∧ ScOk p B' ∧ (e = 0 → CallsS p k s)
theorem sema_stat_j4_e (B : Bl) (r : TType × Int) (b : Bool) : sema_stat_j4 B r b = some (if b = true then 9 else r.2, B) := by cases b <;> rfl
theorem semaS_t : ∀ n, SemaST n := by
  intro n
  induction n with
  | zero => exact ⟨fun _ _ _ _ _ _ _ _ _ h => by omega, fun _ _ _ _ _ _ _ _ _ h => by omega⟩
  | succ n ih =>
    refine ⟨fun k p d B l H hl hx hB hn => ?_, fun k p d B s H h0 hx hB hn => ?_⟩
    · show ∃ e, sema_stats (SemaS_run n) p d B l = some (e, B) ∧ _
      rw [sema_stats, app, if_pos (by simp; omega), bS, sema_stats_j1]
      have L : ∀ (m i : Nat) (B' : Bl), i ≤ l.length → l.length < m + i → B'.length = B.length + 1 → B'.take B.length = B → ScOk p B' →
          ∃ e, sema_stats_l1 (SemaS_run n) l p d m i B' = some (e, B) ∧ (e = 0 → ∀ y ∈ l.drop i, CallsS p k y) := by
        intro m
        induction m with
        | zero => intro i B' h1 h2; omega
        | succ m ihm =>
          intro i B' h1 h2 g1 g2 g3
          rw [sema_stats_l1]
          have pop : ∀ C : Bl, C.length = B.length + 1 → C.take B.length = B → sema_pop p d C = some B := fun C e1 e2 => by
            rw [sema_pop_t p d C (by omega) (by omega), e1, Nat.add_sub_cancel, e2]
          by_cases c : i < l.length
          · obtain ⟨e, B2, r1, r2, r3, r4, r5⟩ := ih.stat k p d B' l[i] ⟨H.pg, H.hd, g3, by omega⟩ (by omega) (hx _ (List.getElem_mem _)) (by omega) (by omega)
            rw [g1, Nat.add_sub_cancel] at r3
            rw [g1] at r2
            have e2 : B2.take B.length = B := r3.trans g2
            rw [if_pos (by omega), at_nat, List.getElem?_eq_getElem c, bS, r1, bS]
            by_cases z : e = 0
            · rw [if_neg (by simpa using z), i64_ok (by omega), bS]
              obtain ⟨e', s1, s2⟩ := ihm (i + 1) B2 c (by omega) r2 e2 r4
              refine ⟨e', s1, fun hz y hy => ?_⟩
              rw [List.drop_eq_getElem_cons c] at hy
              rcases List.mem_cons.1 hy with rfl | hy
              · exact r5 z
              · exact s2 hz y hy
            · rw [if_pos z]
              simp only []
              rw [pop B2 r2 e2, bS]
              exact ⟨e, rfl, fun h => absurd h z⟩
          · rw [if_neg (by omega), pop B' g1 g2, bS, List.drop_eq_nil_of_le (by omega)]
            exact ⟨0, rfl, fun _ => by simp⟩
      have := L (l.length + 1) 0 (B ++ [[]]) (by omega) (by omega) (by simp) (by simp) (fun m hm k' t ht => by
        rcases List.mem_append.1 hm with hm | hm
        · exact H.sc m hm k' t ht
        · rw [List.mem_singleton.1 hm] at ht; cases ht)
      simpa using this
    · show ∃ e B', sema_stat n (SemaS_run n) p d B s = some (e, B') ∧ _
      cases k with
      | zero => cases hx
      | succ k =>
      obtain ⟨k1, k9, hX, hb, he⟩ := hx
      have tt := (sema_t n).typed k p d B s.X
      have te := (sema_t n).expr k p d B s.X
      have same : ∀ e : Int, (e = 0 → CallsS p (k + 1) s) → ∀ o : Option (Int × Bl), o = some (e, B) → ∃ e B', o = some (e, B') ∧ B'.length = B.length ∧ B'.take (B.length - 1) = B.take (B.length - 1) ∧ ScOk p B' ∧ (e = 0 → CallsS p (k + 1) s) :=
        fun e h o ho => ⟨e, B, ho, rfl, rfl, H.sc, h⟩
      have cs : s.Kind ≠ 3 → s.Kind ≠ 4 → s.Kind ≠ 7 → (s.Kind ≠ 6 → Calls p k s.X) → CallsS p (k + 1) s := fun h3 h4 h7 h => ⟨h, fun h => by omega, fun h => absurd h h3, fun h => absurd h h7⟩
      rw [sema_stat]
      by_cases c1 : s.Kind = 1
      · obtain ⟨t, e, h1, h2⟩ := te H (hX (by omega)) (by omega)
        rw [if_pos c1, h1, bS]
        by_cases z : e = 0
        · obtain ⟨t', b, g1, g2⟩ := sema_look_t H.sc H.bl n (by omega) d s.Name
          rw [if_neg (by simpa using z), g1, bS]
          cases b with
          | true => exact same 7 (fun h => absurd h (by decide)) _ rfl
          | false =>
            have hlt : B.length - 1 < B.length := by omega
            have e1 : (B.length : Int) - 1 = ((B.length - 1 : Nat) : Int) := by omega
            rw [if_neg (by simp), i64_ok (by omega), bS, e1, at_nat, List.getElem?_eq_getElem hlt, bS, sema_stat_j1]
            refine ⟨0, _, rfl, by simp, ?_, fun m hm k' u hu => ?_, fun _ => cs (by omega) (by omega) (by omega) fun _ => (h2 z).2⟩
            · simp [List.take_set_of_le]
            · rcases List.mem_or_eq_of_mem_set hm with hm | rfl
              · exact H.sc m hm k' u hu
              · rw [mget_mput] at hu
                split at hu
                · obtain rfl := Option.some.inj hu
                  exact (h2 z).1
                · exact H.sc _ (List.getElem_mem _) k' u hu
        · rw [if_pos z]
          exact same e (fun h => absurd h z) _ rfl
      rw [if_neg c1]
      by_cases c2 : s.Kind = 2
      · obtain ⟨t', b, g1, g2⟩ := sema_look_t H.sc H.bl n (by omega) d s.Name
        rw [if_pos c2, g1, bS]
        cases b with
        | false => exact same 7 (fun h => absurd h (by decide)) _ rfl
        | true =>
          obtain ⟨e, h1, h2⟩ := tt t' H (hX (by omega)) (by omega)
          rw [if_pos rfl, h1, bS]
          exact same e (fun hz => cs (by omega) (by omega) (by omega) fun _ => h2 hz) _ rfl
      rw [if_neg c2]
      have J2 : ∀ b, (b = true ↔ s.Kind = 3 ∨ s.Kind = 4) → ∃ e B', sema_stat_j2 n (SemaS_run n) s p d B b = some (e, B') ∧ B'.length = B.length ∧ B'.take (B.length - 1) = B.take (B.length - 1) ∧ ScOk p B' ∧ (e = 0 → CallsS p (k + 1) s) := by
        intro b hb'
        rw [sema_stat_j2]
        by_cases q : b = true
        · have c := hb'.1 q
          obtain ⟨e, h1, h2⟩ := tt ⟨2, []⟩ H (hX (by omega)) (by omega)
          rw [if_pos q, sema_boolean, bS, h1, bS]
          by_cases z : e = 0
          · rw [if_neg (by simpa using z)]
            obtain ⟨e2, g1, g2⟩ := ih.stats k p d B s.Body H (hb c).1 (hb c).2 (by omega) (by omega)
            rw [g1, bS]
            by_cases z2 : e2 = 0
            · rw [if_neg (by simpa using z2)]
              by_cases c4 : s.Kind = 4
              · rw [decide_eq_true c4]
                exact same e2 (fun _ => ⟨fun _ => h2 z, fun _ => g2 z2, fun h => by omega, fun h => by omega⟩) _ rfl
              · have c3 : s.Kind = 3 := by omega
                obtain ⟨e3, f1, f2⟩ := ih.stats k p d B s.Else H (he c3).1 (he c3).2 (by omega) (by omega)
                rw [decide_eq_false c4, sema_stat_j3, if_neg (by decide)]
                simp only []
                rw [f1, bS]
                exact same e3 (fun hz => ⟨fun _ => h2 z, fun _ => g2 z2, fun _ => f2 hz, fun h => by omega⟩) _ rfl
            · rw [if_pos z2]
              exact same e2 (fun h => absurd h z2) _ rfl
          · rw [if_pos z]
            exact same e (fun h => absurd h z) _ rfl
        rw [if_neg q]
        have q3 : s.Kind ≠ 3 := fun h => q (hb'.2 (.inl h))
        have q4 : s.Kind ≠ 4 := fun h => q (hb'.2 (.inr h))
        by_cases c5 : s.Kind = 5
        · rw [if_pos c5]
          split
          · exact same 8 (fun h => absurd h (by decide)) _ rfl
          · obtain ⟨e, h1, h2⟩ := tt d.Typ H (hX (by omega)) (by omega)
            rw [h1, bS]
            exact same e (fun hz => cs q3 q4 (by omega) fun _ => h2 hz) _ rfl
        rw [if_neg c5]
        by_cases c6 : s.Kind = 6
        · rw [if_pos c6]
          split
          · exact same 8 (fun h => absurd h (by decide)) _ rfl
          · exact same 0 (fun hz => cs q3 q4 (by omega) fun h => absurd c6 h) _ rfl
        rw [if_neg c6]
        by_cases c7 : s.Kind = 7
        · rw [if_pos c7, sema_find_e, bS]
          by_cases c : isK (mget p.named s.Name) 1 = true
          · obtain ⟨f, hf, fk⟩ := isK_t c
            obtain ⟨e, h1, h2⟩ := tt f.Typ H (hX (by omega)) (by omega)
            rw [if_pos c, hf]
            simp only [bS]
            rw [h1, bS]
            exact same e (fun hz => ⟨fun _ => h2 hz, fun h => by omega, fun h => by omega, fun _ => ⟨f, hf, fk⟩⟩) _ rfl
          · rw [if_neg c]
            exact same 7 (fun h => absurd h (by decide)) _ rfl
        rw [if_neg c7]
        by_cases c8 : s.Kind = 8
        · obtain ⟨t, e, h1, h2⟩ := te H (hX (by omega)) (by omega)
          rw [if_pos c8, h1, bS]
          by_cases z : e = 0
          · rw [if_pos z, sema_plain_e, bS, sema_stat_j4_e]
            exact same _ (fun _ => cs q3 q4 (by omega) fun _ => (h2 z).2) _ rfl
          · rw [if_neg z, sema_stat_j4_e]
            exact same e (fun h => absurd h z) _ rfl
        rw [if_neg c8]
        by_cases c9 : s.Kind = 9
        · obtain ⟨t, e, h1, h2⟩ := te H (hX (by omega)) (by omega)
          rw [if_pos c9, h1, bS]
          exact same e (fun hz => cs q3 q4 (by omega) fun _ => (h2 hz).2) _ rfl
        · omega
      split
      · rename_i h; exact J2 _ (by simp [h])
      · rename_i h; exact J2 _ (by simp [h])
theorem sema_typ_t (p : TSp) (t : TType) : ∃ e, sema_typ p t = some e ∧ (e = 0 → TyOk p t) := by
  rw [sema_typ, sema_plain_e, bS]
  by_cases c : t.Kind ≠ 3
  · rw [if_pos (decide_eq_true c)]; exact ⟨0, rfl, fun _ => .of c⟩
  · rw [if_neg (by simpa using c), sema_find_e, bS]
    by_cases q : isK (mget p.named t.Gen) 3 = true
    · rw [if_pos q]; exact ⟨0, rfl, fun _ _ => isK_t q⟩
    · rw [if_neg q]; exact ⟨7, rfl, fun h => absurd h (by decide)⟩
theorem sema_head_t (p : TSp) (d : TDef) (hd : OkD d) : ∃ e, sema_head p d = some e ∧ (e = 0 → HeadOk p d) := by
  have j3 : ∀ b, sema_head_j3 b = some (if b = true then 9 else 0) := fun b => by cases b <;> rfl
  have J2 : (d.Kind = 2 ∨ d.Kind = 3 → ∀ q ∈ d.Params, TyOk p q.Typ) → ∃ e, sema_head_j2 d = some e ∧ (e = 0 → HeadOk p d) := by
    intro g
    rw [sema_head_j2]
    have hpl : d.Kind = 2 ∨ d.Kind = 3 → d.Params.length ≤ 6 := fun h => (hd.ps h).1
    by_cases c3 : d.Kind = 3
    · rw [if_pos c3, sema_plain_e, bS]
      by_cases q : d.Takes.Kind ≠ 3
      · rw [if_pos (decide_eq_true q), if_pos (by omega), sema_plain_e, bS, j3]
        refine ⟨_, rfl, fun hz => ⟨fun _ h => ?_, fun _ => q, g, hpl⟩⟩
        simp [h] at hz
      · rw [if_neg (by simpa using q), j3]
        exact ⟨9, rfl, fun h => absurd h (by decide)⟩
    · rw [if_neg c3]
      by_cases c4 : d.Kind = 4
      · rw [if_neg (by simpa using c4), j3]
        exact ⟨0, rfl, fun _ => ⟨fun h => absurd c4 h, fun h => absurd h c3, g, hpl⟩⟩
      · rw [if_pos c4, sema_plain_e, bS, j3]
        refine ⟨_, rfl, fun hz => ⟨fun _ h => ?_, fun h => absurd h c3, g, hpl⟩⟩
        simp [h] at hz
  have J1 : ∀ b, (b = true ↔ d.Kind = 2 ∨ d.Kind = 3) → ∃ e, sema_head_j1 p d b = some e ∧ (e = 0 → HeadOk p d) := by
    intro b hb
    rw [sema_head_j1]
    by_cases q : b = true
    · rw [if_pos q]
      have hp := hd.ps (hb.1 q)
      have L : ∀ (m i : Nat) (S : List (List UInt8 × Int)), i ≤ d.Params.length → d.Params.length < m + i → (∀ k c, mget S k = some c → 0 ≤ c ∧ c ≤ 1) → (∀ q ∈ d.Params.take i, TyOk p q.Typ) → ∃ e, sema_head_l1 p d m i S = some e ∧ (e = 0 → HeadOk p d) := by
        intro m
        induction m with
        | zero => intro i S h1 h2; omega
        | succ m ihm =>
          intro i S h1 h2 g1 g2
          rw [sema_head_l1]
          by_cases c : i < d.Params.length
          · have hc : 0 ≤ (mget S d.Params[i].Name).getD 0 ∧ (mget S d.Params[i].Name).getD 0 ≤ 1 := by
              cases h : mget S d.Params[i].Name with
              | none => decide
              | some v => exact g1 _ _ h
            rw [if_pos (by omega), at_nat, List.getElem?_eq_getElem c, bS, i64_ok (by omega), bS, mget_mput, if_pos rfl]
            simp only [Option.getD_some]
            by_cases w : (1 : Int) < (mget S d.Params[i].Name).getD 0 + 1
            · rw [if_pos w]; exact ⟨7, rfl, fun h => absurd h (by decide)⟩
            · obtain ⟨e, e1, e2⟩ := sema_typ_t p d.Params[i].Typ
              rw [if_neg w, e1, bS]
              by_cases z : e = 0
              · rw [if_neg (by simpa using z), i64_ok (by omega), bS]
                refine ihm (i + 1) _ c (by omega) (fun k v hv => ?_) fun y hy => ?_
                · rw [mget_mput] at hv
                  split at hv
                  · obtain rfl := Option.some.inj hv
                    omega
                  · exact g1 _ _ hv
                · rw [List.take_succ_eq_append_getElem c] at hy
                  rcases List.mem_append.1 hy with hy | hy
                  · exact g2 y hy
                  · rw [List.mem_singleton.1 hy]; exact e2 z
              · rw [if_pos z]; exact ⟨e, rfl, fun h => absurd h z⟩
          · rw [if_neg (by omega)]
            rw [List.take_of_length_le (by omega)] at g2
            exact J2 fun _ => g2
      exact L (d.Params.length + 1) 0 [] (by omega) (by omega) (fun k c h => by cases h) (by simp)
    · rw [if_neg q]
      exact J2 fun h => absurd (hb.2 h) q
  rw [sema_head]
  split
  · rename_i h; exact J1 _ (by simp [h])
  · rename_i h; exact J1 _ (by simp [h])
theorem sema_body_t (fu : Nat) (hf : 500 ≤ fu) (p : TSp) (d : TDef) (hp : Pg p) (hh : HeadOk p d) (hd : OkD d) : ∃ e, sema_body fu p d = some e ∧ (e = 0 → d.Kind ≠ 1 → ∀ y ∈ d.Body, CallsS p 39 y) := by
  rw [sema_body]
  by_cases c1 : d.Kind = 1
  · rw [if_pos c1]; exact ⟨0, rfl, fun _ h => absurd c1 h⟩
  · rw [if_neg c1]
    have J1 : ∀ B : Bl, B.length = 1 → ScOk p B → ∃ e, sema_body_j1 fu p d B = some e ∧ (e = 0 → d.Kind ≠ 1 → ∀ y ∈ d.Body, CallsS p 39 y) := by
      intro B h1 h2
      obtain ⟨e, r1, r2⟩ := (semaS_t fu).stats 39 p d B d.Body ⟨hp, hh, h2, by omega⟩ (hd.bl c1) (hd.bo c1) (by omega) (by omega)
      rw [sema_body_j1, r1, bS]
      exact ⟨e, rfl, fun hz _ => r2 hz⟩
    by_cases c4 : d.Kind = 4
    · rw [if_neg (by simpa using c4)]
      exact J1 _ rfl (fun m hm k t ht => by rw [List.mem_singleton.1 hm] at ht; cases ht)
    · rw [if_pos c4]
      have k23 : d.Kind = 2 ∨ d.Kind = 3 := by have := hd.k1; have := hd.k4; omega
      have hpl := hh.pl k23
      have L : ∀ (m i : Nat) (B : Bl), i ≤ d.Params.length → d.Params.length < m + i → B.length = 1 → ScOk p B → ∃ e, sema_body_l1 fu p d m i B = some e ∧ (e = 0 → d.Kind ≠ 1 → ∀ y ∈ d.Body, CallsS p 39 y) := by
        intro m
        induction m with
        | zero => intro i B h1 h2; omega
        | succ m ihm =>
          intro i B h1 h2 g1 g2
          rw [sema_body_l1]
          by_cases c : i < d.Params.length
          · have h0 : 0 < B.length := by omega
            rw [if_pos (by omega), at_nat, List.getElem?_eq_getElem c, bS, at_0 h0, bS, sema_bare_e, bS, sema_body_j2, i64_ok (by omega), bS]
            refine ihm (i + 1) _ c (by omega) (by simpa using g1) fun m' hm' k t ht => ?_
            rcases List.mem_or_eq_of_mem_set hm' with hm' | rfl
            · exact g2 m' hm' k t ht
            · rw [mget_mput] at ht
              split at ht
              · obtain rfl := Option.some.inj ht
                exact (hh.ps k23 _ (List.getElem_mem _)).bare
              · exact g2 _ (List.getElem_mem _) k t ht
          · rw [if_neg (by omega)]
            exact J1 B g1 g2
      exact L (d.Params.length + 1) 0 _ (by omega) (by omega) rfl (fun m hm k t ht => by rw [List.mem_singleton.1 hm] at ht; cases ht)
structure Right (p : TSp) (l : List TDef) : Prop where
  ok : OkP l
  nm : ∀ d ∈ l, mget p.named d.Name = some d
  only : ∀ k d, mget p.named k = some d → d ∈ l ∧ d.Name = k
  nd : l.Pairwise fun a b => a.Name ≠ b.Name
  tk : ∃ d ∈ l, d.Kind = 4
  hd : ∀ d ∈ l, HeadOk p d
  cs : ∀ d ∈ l, d.Kind ≠ 1 → ∀ y ∈ d.Body, CallsS p 39 y
theorem sema_named_t (fu : Nat) (hf : 500 ≤ fu) (l : List TDef) : ∃ p f, sema_named fu l = some (p, f) ∧ (f.Err = 0 → Right p l) := by
  obtain ⟨f, h1, h2⟩ := syn_wrong_t fu (by omega) l
  rw [sema_named, h1, bS]
  by_cases z : f.Err = 0
  · obtain ⟨-, ok⟩ := h2 z
    have hl := ok.le
    rw [if_neg (by simpa using z)]
    have L3 : ∀ (N : List (List UInt8 × TDef)), (∀ d ∈ l, mget N d.Name = some d) → (∀ k d, mget N k = some d → d ∈ l ∧ d.Name = k) → l.Pairwise (fun a b => a.Name ≠ b.Name) → (∃ d ∈ l, d.Kind = 4) → (∀ d ∈ l, HeadOk ⟨l, N⟩ d) →
        ∀ (m i : Nat), i ≤ l.length → l.length < m + i → (∀ d ∈ l.take i, d.Kind ≠ 1 → ∀ y ∈ d.Body, CallsS ⟨l, N⟩ 39 y) → ∃ p f, sema_named_l3 fu l N m i = some (p, f) ∧ (f.Err = 0 → Right p l) := by
      intro N n1 n2 n3 n4 n5 m
      induction m with
      | zero => intro i h1 h2; omega
      | succ m ihm =>
        intro i h1 h2 g
        rw [sema_named_l3]
        by_cases c : i < l.length
        · obtain ⟨e, e1, e2⟩ := sema_body_t fu hf ⟨l, N⟩ l[i] (fun k d hd => n5 d (n2 k d hd).1) (n5 _ (List.getElem_mem _)) (ok.ok _ (List.getElem_mem _))
          rw [if_pos (by omega), at_nat, List.getElem?_eq_getElem c, bS, e1, bS]
          by_cases z : e = 0
          · rw [if_neg (by simpa using z), i64_ok (by omega), bS]
            refine ihm (i + 1) c (by omega) fun d hd => ?_
            rw [List.take_succ_eq_append_getElem c] at hd
            rcases List.mem_append.1 hd with hd | hd
            · exact g d hd
            · rw [List.mem_singleton.1 hd]; exact e2 z
          · rw [if_pos z]; exact ⟨_, _, rfl, fun h => absurd h z⟩
        · rw [if_neg (by omega)]
          rw [List.take_of_length_le (by omega)] at g
          exact ⟨_, _, rfl, fun _ => ⟨ok, n1, n2, n3, n4, n5, g⟩⟩
    have L2 : ∀ (N : List (List UInt8 × TDef)), (∀ d ∈ l, mget N d.Name = some d) → (∀ k d, mget N k = some d → d ∈ l ∧ d.Name = k) → l.Pairwise (fun a b => a.Name ≠ b.Name) → (∃ d ∈ l, d.Kind = 4) →
        ∀ (m i : Nat), i ≤ l.length → l.length < m + i → (∀ d ∈ l.take i, HeadOk ⟨l, N⟩ d) → ∃ p f, sema_named_l2 fu l N m i = some (p, f) ∧ (f.Err = 0 → Right p l) := by
      intro N n1 n2 n3 n4 m
      induction m with
      | zero => intro i h1 h2; omega
      | succ m ihm =>
        intro i h1 h2 g
        rw [sema_named_l2]
        by_cases c : i < l.length
        · obtain ⟨e, e1, e2⟩ := sema_head_t ⟨l, N⟩ l[i] (ok.ok _ (List.getElem_mem _))
          rw [if_pos (by omega), at_nat, List.getElem?_eq_getElem c, bS, e1, bS]
          by_cases z : e = 0
          · rw [if_neg (by simpa using z), i64_ok (by omega), bS]
            refine ihm (i + 1) c (by omega) fun d hd => ?_
            rw [List.take_succ_eq_append_getElem c] at hd
            rcases List.mem_append.1 hd with hd | hd
            · exact g d hd
            · rw [List.mem_singleton.1 hd]; exact e2 z
          · rw [if_pos z]; exact ⟨_, _, rfl, fun h => absurd h z⟩
        · rw [if_neg (by omega)]
          rw [List.take_of_length_le (by omega)] at g
          exact L3 N n1 n2 n3 n4 g (l.length + 1) 0 (by omega) (by omega) (by simp)
    have L1 : ∀ (m i : Nat) (t : Int) (N : List (List UInt8 × TDef)), i ≤ l.length → l.length < m + i → 0 ≤ t → t ≤ i → (t ≠ 0 → ∃ d ∈ l, d.Kind = 4) → (∀ d ∈ l.take i, mget N d.Name = some d) → (∀ k d, mget N k = some d → d ∈ l.take i ∧ d.Name = k) → (l.take i).Pairwise (fun a b => a.Name ≠ b.Name) →
        ∃ p f, sema_named_l1 fu l m t i N = some (p, f) ∧ (f.Err = 0 → Right p l) := by
      intro m
      induction m with
      | zero => intro i t N h1 h2; omega
      | succ m ihm =>
        intro i t N h1 h2 g1 g2 g3 g4 g5 g6
        rw [sema_named_l1]
        by_cases c : i < l.length
        · have e0 : at_ l (i : Int) = some l[i] := by rw [at_nat, List.getElem?_eq_getElem c]
          rw [if_pos (by omega), e0, bS]
          cases h : mget N l[i].Name with
          | some v => rw [if_pos (by simp)]; exact ⟨_, _, rfl, fun h => absurd h (by decide : (7 : Int) ≠ 0)⟩
          | none =>
            rw [if_neg (by simp)]
            simp only [bS]
            have hm : l[i] ∈ l := List.getElem_mem _
            have tk := List.take_succ_eq_append_getElem c
            have nn : ∀ d ∈ l.take i, d.Name ≠ l[i].Name := fun d hd he => by
              have := g4 d hd
              rw [he, h] at this
              cases this
            have q1 : ∀ d ∈ l.take (i + 1), mget (mput N l[i].Name l[i]) d.Name = some d := by
              intro d hd
              rw [tk] at hd
              rw [mget_mput]
              rcases List.mem_append.1 hd with hd | hd
              · rw [if_neg fun he => nn d hd he.symm]; exact g4 d hd
              · rw [List.mem_singleton.1 hd, if_pos rfl]
            have q2 : ∀ k d, mget (mput N l[i].Name l[i]) k = some d → d ∈ l.take (i + 1) ∧ d.Name = k := by
              intro k d hd
              rw [mget_mput] at hd
              rw [tk]
              split at hd
              · rename_i hk
                obtain rfl := Option.some.inj hd
                exact ⟨List.mem_append.2 (.inr (List.mem_singleton.2 rfl)), hk⟩
              · obtain ⟨r1, r2⟩ := g5 k d hd
                exact ⟨List.mem_append.2 (.inl r1), r2⟩
            have q3 : (l.take (i + 1)).Pairwise (fun a b => a.Name ≠ b.Name) := by
              rw [tk, List.pairwise_append]
              refine ⟨g6, List.pairwise_singleton _ _, fun a ha b hb => ?_⟩
              rw [List.mem_singleton.1 hb]
              exact nn a ha
            by_cases k4 : l[i].Kind = 4
            · rw [if_pos k4, i64_ok (by omega), bS, i64_ok (by omega), bS]
              exact ihm (i + 1) (t + 1) _ c (by omega) (by omega) (by omega) (fun _ => ⟨_, hm, k4⟩) q1 q2 q3
            · rw [if_neg k4, i64_ok (by omega), bS]
              exact ihm (i + 1) t _ c (by omega) g1 (by omega) g3 q1 q2 q3
        · rw [if_neg (by omega)]
          rw [List.take_of_length_le (by omega)] at g4 g5 g6
          by_cases t0 : t = 0
          · rw [if_pos t0]; exact ⟨_, _, rfl, fun h => absurd h (by decide : (6 : Int) ≠ 0)⟩
          · rw [if_neg t0]
            exact L2 N g4 g5 g6 (g3 t0) (l.length + 1) 0 (by omega) (by omega) (by simp)
    exact L1 (l.length + 1) 0 0 [] (by omega) (by omega) (by omega) (by omega) (fun h => absurd rfl h) (by simp) (fun k d h => by cases h) (by simp)
  · rw [if_pos z]
    exact ⟨_, _, rfl, fun h => absurd h z⟩
end Go.Y
namespace Go.Y
open Go.Wk Go.Xt
abbrev Nm := List UInt8
def cE : Nat → TExpr → List Nm
  | 0, _ => []
  | k + 1, x => (if x.Kind = 19 ∨ x.Kind = 22 then [x.Name] else []) ++ (x.Kids.map (cE k)).flatten
def rE : Nat → TExpr → List Nm
  | 0, _ => []
  | k + 1, x => (if x.Kind = 20 then [x.Name] else []) ++ (x.Kids.map (rE k)).flatten
def cS : Nat → TStat → List Nm
  | 0, _ => []
  | k + 1, s => (if s.Kind = 6 then [] else cE k s.X) ++ (if s.Kind = 3 ∨ s.Kind = 4 then (s.Body.map (cS k)).flatten else []) ++ (if s.Kind = 3 then (s.Else.map (cS k)).flatten else [])
def rS : Nat → TStat → List Nm
  | 0, _ => []
  | k + 1, s => (if s.Kind = 6 then [] else rE k s.X) ++ (if s.Kind = 3 ∨ s.Kind = 4 then (s.Body.map (rS k)).flatten else []) ++ (if s.Kind = 3 then (s.Else.map (rS k)).flatten else [])
def sS : Nat → TStat → List Nm
  | 0, _ => []
  | k + 1, s => (if s.Kind = 7 then [s.Name] else []) ++ (if s.Kind = 3 ∨ s.Kind = 4 then (s.Body.map (sS k)).flatten else []) ++ (if s.Kind = 3 then (s.Else.map (sS k)).flatten else [])
theorem flat_le {α β : Type} (f : α → List β) (g : α → Nat) (h : ∀ x, (f x).length ≤ g x) : ∀ l : List α, (l.map f).flatten.length ≤ (l.map g).sum
  | [] => by simp
  | x :: l => by
    have := flat_le f g h l
    have := h x
    simp only [List.map_cons, List.flatten_cons, List.length_append, List.sum_cons]
    omega
theorem le_sum {α : Type} (g : α → Nat) : ∀ (l : List α) (x : α), x ∈ l → g x ≤ (l.map g).sum
  | y :: l, x, h => by
    rw [List.map_cons, List.sum_cons]
    rcases List.mem_cons.1 h with rfl | h
    · omega
    · have := le_sum g l x h; omega
theorem cE_le : ∀ (k : Nat) (x : TExpr), (cE k x).length ≤ nE k x
  | 0, x => by simp [cE]
  | k + 1, x => by
    have := flat_le (cE k) (nE k) (cE_le k) x.Kids
    rw [cE, nE, List.length_append]
    split <;> simp only [List.length_cons, List.length_nil] <;> omega
theorem rE_le : ∀ (k : Nat) (x : TExpr), (rE k x).length ≤ nE k x
  | 0, x => by simp [rE]
  | k + 1, x => by
    have := flat_le (rE k) (nE k) (rE_le k) x.Kids
    rw [rE, nE, List.length_append]
    split <;> simp only [List.length_cons, List.length_nil] <;> omega
theorem cS_le : ∀ (k : Nat) (x : TStat), (cS k x).length ≤ nS k x
  | 0, x => by simp [cS]
  | k + 1, x => by
    have := flat_le (cS k) (nS k) (cS_le k) x.Body
    have := flat_le (cS k) (nS k) (cS_le k) x.Else
    have := cE_le k x.X
    rw [cS, nS, List.length_append, List.length_append]
    split <;> split <;> split <;> (try simp only [List.length_nil]) <;> omega
theorem rS_le : ∀ (k : Nat) (x : TStat), (rS k x).length ≤ nS k x
  | 0, x => by simp [rS]
  | k + 1, x => by
    have := flat_le (rS k) (nS k) (rS_le k) x.Body
    have := flat_le (rS k) (nS k) (rS_le k) x.Else
    have := rE_le k x.X
    rw [rS, nS, List.length_append, List.length_append]
    split <;> split <;> split <;> (try simp only [List.length_nil]) <;> omega
theorem sS_le : ∀ (k : Nat) (x : TStat), (sS k x).length ≤ nS k x
  | 0, x => by simp [sS]
  | k + 1, x => by
    have := flat_le (sS k) (nS k) (sS_le k) x.Body
    have := flat_le (sS k) (nS k) (sS_le k) x.Else
    rw [sS, nS, List.length_append, List.length_append]
    by_cases h7 : x.Kind = 7
    · rw [if_pos h7, if_neg (by omega), if_neg (by omega), if_neg (by omega), if_neg (by omega), if_neg (by omega)]
      simp
    · rw [if_neg h7]
      split <;> split <;> split <;> (try simp only [List.length_nil]) <;> omega
theorem app_ok {α : Type} {l xs : List α} (h : l.length + xs.length ≤ 4294967296) : app l xs = some (l ++ xs) := if_pos h
theorem uses_expr_t : ∀ (n k : Nat) (x : TExpr) (c s r : List Nm), k ≤ n → OkE k x → c.length + nE k x ≤ 1000000 → r.length + nE k x ≤ 1000000 → (SemaU_run n).uses_expr c s r x = some (c ++ cE k x, s, r ++ rE k x) := by
  intro n
  induction n with
  | zero => intro k x c s r h1 h2; obtain rfl : k = 0 := by omega
            cases h2
  | succ n ih =>
    intro k x c s r h1 h2 h3 h4
    cases k with
    | zero => cases h2
    | succ k =>
    obtain ⟨k1, k24, hk, hks⟩ := h2
    show uses_expr (SemaU_run n) c s r x = _
    have L : ∀ (m i : Nat) (c r : List Nm), i ≤ x.Kids.length → x.Kids.length < m + i → c.length + ((x.Kids.drop i).map (nE k)).sum ≤ 1000000 → r.length + ((x.Kids.drop i).map (nE k)).sum ≤ 1000000 →
        uses_expr_l1 (SemaU_run n) x m i c s r = some (c ++ ((x.Kids.drop i).map (cE k)).flatten, s, r ++ ((x.Kids.drop i).map (rE k)).flatten) := by
      intro m
      induction m with
      | zero => intro i c r h1 h2; omega
      | succ m ihm =>
        intro i c r g1 g2 g3 g4
        rw [uses_expr_l1]
        have hl := hk.le
        by_cases q : i < x.Kids.length
        · rw [List.drop_eq_getElem_cons q, List.map_cons, List.sum_cons] at g3 g4
          have b1 := cE_le k x.Kids[i]
          have b2 := rE_le k x.Kids[i]
          rw [if_pos (by omega), at_nat, List.getElem?_eq_getElem q, bS, ih k x.Kids[i] c s r (by omega) (hks _ (List.getElem_mem _)) (by omega) (by omega), bS, i64_ok (by omega), bS]
          refine (ihm (i + 1) _ _ q (by omega) (by simp only [List.length_append]; omega) (by simp only [List.length_append]; omega)).trans ?_
          rw [List.drop_eq_getElem_cons q]
          simp only [List.map_cons, List.flatten_cons, List.append_assoc]
        · rw [if_neg (by omega), List.drop_eq_nil_of_le (by omega)]
          simp
    have J1 : ∀ c r : List Nm, c.length + (x.Kids.map (nE k)).sum ≤ 1000000 → r.length + (x.Kids.map (nE k)).sum ≤ 1000000 → uses_expr_j1 (SemaU_run n) x s c r = some (c ++ (x.Kids.map (cE k)).flatten, s, r ++ (x.Kids.map (rE k)).flatten) := by
      intro c r g1 g2
      have := L (x.Kids.length + 1) 0 c r (by omega) (by omega) (by simpa using g1) (by simpa using g2)
      simpa [uses_expr_j1] using this
    rw [nE] at h3 h4
    have J2 : ∀ b, (b = true ↔ x.Kind = 19 ∨ x.Kind = 22) → uses_expr_j2 (SemaU_run n) c x s r b = some (c ++ cE (k + 1) x, s, r ++ rE (k + 1) x) := by
      intro b hb
      rw [uses_expr_j2, cE, rE]
      by_cases q : b = true
      · have := hb.1 q
        rw [if_pos q, app_ok (by simp; omega), bS, uses_expr_j3, J1 _ _ (by simp; omega) (by omega), if_pos this, if_neg (by omega)]
        simp
      · rw [if_neg q]
        have hn : ¬ (x.Kind = 19 ∨ x.Kind = 22) := fun h => q (hb.2 h)
        by_cases c20 : x.Kind = 20
        · rw [if_pos c20, app_ok (by simp; omega), bS, uses_expr_j4, J1 _ _ (by omega) (by simp; omega), if_neg hn, if_pos c20]
          simp
        · rw [if_neg c20, J1 _ _ (by omega) (by omega), if_neg hn, if_neg c20]
          simp
    rw [uses_expr]
    split
    · rename_i h; exact J2 _ (by simp [h])
    · rename_i h; exact J2 _ (by simp [h])
theorem uses_stats_t : ∀ (n k : Nat) (l : List TStat) (c s r : List Nm), k + 1 ≤ n → l.length ≤ 50 → (∀ y ∈ l, OkS k y) → c.length + (l.map (nS k)).sum ≤ 1000000 → s.length + (l.map (nS k)).sum ≤ 1000000 → r.length + (l.map (nS k)).sum ≤ 1000000 →
    (SemaV_run n).uses_stats c s r l = some (c ++ (l.map (cS k)).flatten, s ++ (l.map (sS k)).flatten, r ++ (l.map (rS k)).flatten) := by
  intro n
  induction n with
  | zero => intro k l c s r h1; omega
  | succ n ih =>
    intro k l c s r h1 hl hx h3 h4 h5
    show uses_stats n (SemaV_run n) c s r l = _
    have L : ∀ (m i : Nat) (c s r : List Nm), i ≤ l.length → l.length < m + i → c.length + ((l.drop i).map (nS k)).sum ≤ 1000000 → s.length + ((l.drop i).map (nS k)).sum ≤ 1000000 → r.length + ((l.drop i).map (nS k)).sum ≤ 1000000 →
        uses_stats_l1 n (SemaV_run n) l m i c s r = some (c ++ ((l.drop i).map (cS k)).flatten, s ++ ((l.drop i).map (sS k)).flatten, r ++ ((l.drop i).map (rS k)).flatten) := by
      intro m
      induction m with
      | zero => intro i c s r h1 h2; omega
      | succ m ihm =>
        intro i c s r g1 g2 g3 g4 g5
        rw [uses_stats_l1]
        by_cases q : i < l.length
        · rw [List.drop_eq_getElem_cons q, List.map_cons, List.sum_cons] at g3 g4 g5
          rw [if_pos (by omega), at_nat, List.getElem?_eq_getElem q, bS]
          have hy := hx _ (List.getElem_mem q)
          have b1 := cS_le k l[i]
          have b2 := sS_le k l[i]
          have b3 := rS_le k l[i]
          have nx := fun c' s' r' (e1 : c' = c ++ cS k l[i]) (e2 : s' = s ++ sS k l[i]) (e3 : r' = r ++ rS k l[i]) =>
            (ihm (i + 1) c' s' r' q (by omega) (by rw [e1, List.length_append]; omega) (by rw [e2, List.length_append]; omega) (by rw [e3, List.length_append]; omega)).trans
              (show _ = some (c ++ ((l.drop i).map (cS k)).flatten, s ++ ((l.drop i).map (sS k)).flatten, r ++ ((l.drop i).map (rS k)).flatten) by
                rw [List.drop_eq_getElem_cons q, e1, e2, e3]
                simp only [List.map_cons, List.flatten_cons, List.append_assoc])
          generalize l[i] = y at *
          cases k with
          | zero => cases hy
          | succ k =>
          obtain ⟨k1, k9, oX, oB, oE⟩ := hy
          rw [nS] at g3 g4 g5
          rw [cS] at b1 nx
          rw [sS] at b2 nx
          rw [rS] at b3 nx
          have J5 : ∀ c' s' r', (y.Kind = 3 → c'.length + (y.Else.map (nS k)).sum ≤ 1000000 ∧ s'.length + (y.Else.map (nS k)).sum ≤ 1000000 ∧ r'.length + (y.Else.map (nS k)).sum ≤ 1000000) →
              c' = c ++ ((if y.Kind = 6 then [] else cE k y.X) ++ (if y.Kind = 3 ∨ y.Kind = 4 then (y.Body.map (cS k)).flatten else [])) → s' = s ++ ((if y.Kind = 7 then [y.Name] else []) ++ (if y.Kind = 3 ∨ y.Kind = 4 then (y.Body.map (sS k)).flatten else [])) →
              r' = r ++ ((if y.Kind = 6 then [] else rE k y.X) ++ (if y.Kind = 3 ∨ y.Kind = 4 then (y.Body.map (rS k)).flatten else [])) →
              uses_stats_j5 (SemaV_run n) i y (uses_stats_l1 n (SemaV_run n) l m) c' s' r' = some (c ++ ((l.drop i).map (cS (k + 1))).flatten, s ++ ((l.drop i).map (sS (k + 1))).flatten, r ++ ((l.drop i).map (rS (k + 1))).flatten) := by
            intro c' s' r' hb e1 e2 e3
            rw [uses_stats_j5]
            by_cases c3 : y.Kind = 3
            · obtain ⟨z1, z2, z3⟩ := hb c3
              rw [if_pos c3, ih k y.Else c' s' r' (by omega) (oE c3).1 (oE c3).2 z1 z2 z3, bS, i64_ok (by omega), bS]
              refine nx _ _ _ ?_ ?_ ?_
              · rw [e1]; simp only [if_pos c3, List.append_assoc]
              · rw [e2]; simp only [if_pos c3, List.append_assoc]
              · rw [e3]; simp only [if_pos c3, List.append_assoc]
            · rw [if_neg c3, i64_ok (by omega), bS]
              refine nx _ _ _ ?_ ?_ ?_
              · rw [e1]; simp only [if_neg c3, List.append_nil]
              · rw [e2]; simp only [if_neg c3, List.append_nil]
              · rw [e3]; simp only [if_neg c3, List.append_nil]
          have J4 : ∀ c' s' r' b, (b = true ↔ y.Kind = 3 ∨ y.Kind = 4) → c' = c ++ (if y.Kind = 6 then [] else cE k y.X) → s' = s ++ (if y.Kind = 7 then [y.Name] else []) → r' = r ++ (if y.Kind = 6 then [] else rE k y.X) →
              uses_stats_j4 (SemaV_run n) i y c' s' r' (uses_stats_l1 n (SemaV_run n) l m) b = some (c ++ ((l.drop i).map (cS (k + 1))).flatten, s ++ ((l.drop i).map (sS (k + 1))).flatten, r ++ ((l.drop i).map (rS (k + 1))).flatten) := by
            intro c' s' r' b hb e1 e2 e3
            rw [uses_stats_j4]
            have y1 := cE_le k y.X
            have y2 := rE_le k y.X
            have y3 := flat_le (cS k) (nS k) (cS_le k) y.Body
            have y4 := flat_le (sS k) (nS k) (sS_le k) y.Body
            have y5 := flat_le (rS k) (nS k) (rS_le k) y.Body
            by_cases q : b = true
            · have c34 := hb.1 q
              rw [if_neg (show y.Kind ≠ 6 by omega), if_pos c34] at g3 g4 g5
              rw [if_neg (show y.Kind ≠ 6 by omega)] at e1 e3
              rw [if_neg (show y.Kind ≠ 7 by omega)] at e2
              have l1 : c'.length = c.length + (cE k y.X).length := by rw [e1, List.length_append]
              have l2 : s'.length = s.length := by rw [e2]; simp
              have l3 : r'.length = r.length + (rE k y.X).length := by rw [e3, List.length_append]
              rw [if_pos q, ih k y.Body c' s' r' (by omega) (oB c34).1 (oB c34).2 (by omega) (by omega) (by omega), bS]
              refine J5 _ _ _ (fun h3 => ?_) ?_ ?_ ?_
              · rw [if_pos h3] at g3 g4 g5
                simp only [List.length_append]
                omega
              · rw [e1, if_neg (show y.Kind ≠ 6 by omega), if_pos c34, List.append_assoc]
              · rw [e2, if_neg (show y.Kind ≠ 7 by omega), if_pos c34, List.append_assoc]
              · rw [e3, if_neg (show y.Kind ≠ 6 by omega), if_pos c34, List.append_assoc]
            · have hn : ¬ (y.Kind = 3 ∨ y.Kind = 4) := fun h => q (hb.2 h)
              rw [if_neg q]
              refine J5 _ _ _ (fun h3 => absurd (.inl h3) hn) ?_ ?_ ?_
              · rw [e1, if_neg hn, List.append_nil]
              · rw [e2, if_neg hn, List.append_nil]
              · rw [e3, if_neg hn, List.append_nil]
          have J1 : ∀ s', s' = s ++ (if y.Kind = 7 then [y.Name] else []) → uses_stats_j1 n (SemaV_run n) i c r y (uses_stats_l1 n (SemaV_run n) l m) s' = some (c ++ ((l.drop i).map (cS (k + 1))).flatten, s ++ ((l.drop i).map (sS (k + 1))).flatten, r ++ ((l.drop i).map (rS (k + 1))).flatten) := by
            intro s' e2
            have J3 : ∀ c' r', c' = c ++ (if y.Kind = 6 then [] else cE k y.X) → r' = r ++ (if y.Kind = 6 then [] else rE k y.X) → uses_stats_j3 (SemaV_run n) i y (uses_stats_l1 n (SemaV_run n) l m) c' s' r' = some (c ++ ((l.drop i).map (cS (k + 1))).flatten, s ++ ((l.drop i).map (sS (k + 1))).flatten, r ++ ((l.drop i).map (rS (k + 1))).flatten) := by
              intro c' r' e1 e3
              rw [uses_stats_j3]
              split
              · rename_i h; exact J4 _ _ _ _ (by simp [h]) e1 e2 e3
              · rename_i h; exact J4 _ _ _ _ (by simp [h]) e1 e2 e3
            rw [uses_stats_j1]
            by_cases c6 : y.Kind = 6
            · rw [if_neg (by simpa using c6)]
              exact J3 _ _ (by rw [if_pos c6, List.append_nil]) (by rw [if_pos c6, List.append_nil])
            · rw [if_neg c6] at g3 g4 g5
              rw [if_pos c6, uses_expr_t n k y.X c s' r (by omega) (oX c6) (by omega) (by omega), bS]
              exact J3 _ _ (by rw [if_neg c6]) (by rw [if_neg c6])
          by_cases c7 : y.Kind = 7
          · rw [if_pos c7, app_ok (by simp; omega), bS, uses_stats_j2]
            exact J1 _ (by rw [if_pos c7])
          · rw [if_neg c7]
            exact J1 _ (by rw [if_neg c7, List.append_nil])
        · rw [if_neg (by omega), List.drop_eq_nil_of_le (by omega)]
          simp
    rw [uses_stats]
    have := L (l.length + 1) 0 c s r (by omega) (by omega) (by simpa using h3) (by simpa using h4) (by simpa using h5)
    simpa using this
end Go.Y
namespace Go.Y
open Go.Wk Go.Xt
theorem mem_flat {α β : Type} {f : α → List β} {l : List α} {b : β} (h : b ∈ (l.map f).flatten) : ∃ a ∈ l, b ∈ f a := by
  obtain ⟨q, hq, hb⟩ := List.mem_flatten.1 h
  obtain ⟨a, ha, rfl⟩ := List.mem_map.1 hq
  exact ⟨a, ha, hb⟩
theorem mem_ite {β : Type} {c : Prop} [Decidable c] {l m : List β} {b : β} (h : b ∈ (if c then l else m)) : (c ∧ b ∈ l) ∨ (¬ c ∧ b ∈ m) := by
  by_cases q : c
  · rw [if_pos q] at h; exact .inl ⟨q, h⟩
  · rw [if_neg q] at h; exact .inr ⟨q, h⟩
theorem calls_c {p : TSp} : ∀ (k : Nat) (x : TExpr), Calls p k x → ∀ c ∈ cE k x, ∃ d, mget p.named c = some d ∧ (d.Kind = 2 ∨ d.Kind = 3)
  | 0, x, h => by cases h
  | k + 1, x, h => by
    obtain ⟨h1, h2, h3, h4⟩ := h
    intro c hc
    rw [cE] at hc
    rcases List.mem_append.1 hc with hc | hc
    · rcases mem_ite hc with ⟨q, hc⟩ | ⟨q, hc⟩
      · rw [List.mem_singleton.1 hc]
        rcases q with q | q
        · obtain ⟨d, e1, e2⟩ := h1 q; exact ⟨d, e1, .inl e2⟩
        · obtain ⟨d, e1, e2⟩ := h2 q; exact ⟨d, e1, .inr e2⟩
      · cases hc
    · obtain ⟨a, ha, hb⟩ := mem_flat hc
      exact calls_c k a (h4 a ha) c hb
theorem callsS_c {p : TSp} : ∀ (k : Nat) (x : TStat), CallsS p k x → ∀ c ∈ cS k x, ∃ d, mget p.named c = some d ∧ (d.Kind = 2 ∨ d.Kind = 3)
  | 0, x, h => by cases h
  | k + 1, x, h => by
    obtain ⟨h1, h2, h3, h4⟩ := h
    intro c hc
    rw [cS] at hc
    rcases List.mem_append.1 hc with hc | hc
    · rcases List.mem_append.1 hc with hc | hc
      · rcases mem_ite hc with ⟨q, hc⟩ | ⟨q, hc⟩
        · cases hc
        · exact calls_c k _ (h1 q) c hc
      · rcases mem_ite hc with ⟨q, hc⟩ | ⟨q, hc⟩
        · obtain ⟨a, ha, hb⟩ := mem_flat hc
          exact callsS_c k a (h2 q a ha) c hb
        · cases hc
    · rcases mem_ite hc with ⟨q, hc⟩ | ⟨q, hc⟩
      · obtain ⟨a, ha, hb⟩ := mem_flat hc
        exact callsS_c k a (h3 q a ha) c hb
      · cases hc
def cD (d : TDef) : List Nm := (d.Body.map (cS 39)).flatten
def sD (d : TDef) : List Nm := (d.Body.map (sS 39)).flatten
def rD (d : TDef) : List Nm := (d.Body.map (rS 39)).flatten
def addC (N : List (Nm × TDef)) : List Nm → List Nm → List (Option TDef) → List Nm × List (Option TDef)
  | [], had, todo => (had, todo)
  | c :: cs, had, todo => if had.contains c = true then addC N cs had todo else addC N cs (had ++ [c]) (todo ++ [mget N c])
def rch (N : List (Nm × TDef)) : Nat → List Nm → List (Option TDef) → List Nm → List Nm → Option TSemaUses
  | 0, _, _, _, _ => none
  | n + 1, had, [], s, r => some ⟨[], s, r⟩
  | n + 1, had, none :: t, s, r => none
  | n + 1, had, some d :: t, s, r => rch N n (addC N (cD d) had t).1 (addC N (cD d) had t).2 (s ++ sD d) (r ++ rD d)
def rem_ (l : List TDef) (had : List Nm) : Nat := (l.filter fun d => !had.contains d.Name).length
theorem filter_le {α : Type} (P Q : α → Bool) (h : ∀ x, Q x = true → P x = true) : ∀ l : List α, (l.filter Q).length ≤ (l.filter P).length
  | [] => by simp
  | x :: l => by
    have ih := filter_le P Q h l
    rw [List.filter_cons, List.filter_cons]
    by_cases q : Q x = true
    · rw [if_pos q, if_pos (h x q), List.length_cons, List.length_cons]; omega
    · rw [if_neg q]
      split
      · rw [List.length_cons]; omega
      · exact ih
theorem filter_lt {α : Type} (P Q : α → Bool) (h : ∀ x, Q x = true → P x = true) : ∀ (l : List α) (x : α), x ∈ l → P x = true → Q x = false → (l.filter Q).length < (l.filter P).length
  | y :: l, x, hx, hp, hq => by
    have le := filter_le P Q h l
    rw [List.filter_cons, List.filter_cons]
    rcases List.mem_cons.1 hx with rfl | hx
    · rw [if_pos hp, if_neg (by simp [hq]), List.length_cons]; omega
    · have ih := filter_lt P Q h l x hx hp hq
      by_cases q : Q y = true
      · rw [if_pos q, if_pos (h y q), List.length_cons, List.length_cons]; omega
      · rw [if_neg q]
        split
        · rw [List.length_cons]; omega
        · exact ih
theorem rem_add (l : List TDef) (had : List Nm) (d : TDef) (hd : d ∈ l) (h : had.contains d.Name = false) : rem_ l (had ++ [d.Name]) < rem_ l had := by
  refine filter_lt _ _ (fun x hx => ?_) l d hd (by simpa using h) (by simp)
  simp only [Bool.not_eq_true', List.contains_eq_mem, List.mem_append, decide_eq_false_iff_not] at hx ⊢
  exact fun h => hx (.inl h)
structure Todo (p : TSp) (l : List TDef) (had : List Nm) (todo : List (Option TDef)) (q : Nat) : Prop where
  hl : had.length + rem_ l had ≤ 30
  td : ∀ o ∈ todo, ∃ d ∈ l, o = some d ∧ d.Kind ≠ 1
  q : rem_ l had + todo.length ≤ q
theorem addC_ok {p : TSp} {l : List TDef} (R : Right p l) : ∀ (cs : List Nm) (had : List Nm) (todo : List (Option TDef)) (q : Nat), (∀ c ∈ cs, ∃ d, mget p.named c = some d ∧ (d.Kind = 2 ∨ d.Kind = 3)) → Todo p l had todo q → Todo p l (addC p.named cs had todo).1 (addC p.named cs had todo).2 q
  | [], had, todo, q, h, T => T
  | c :: cs, had, todo, q, h, T => by
    rw [addC]
    have h' : ∀ c ∈ cs, ∃ d, mget p.named c = some d ∧ (d.Kind = 2 ∨ d.Kind = 3) := fun c hc => h c (List.mem_cons_of_mem _ hc)
    by_cases k : had.contains c = true
    · rw [if_pos k]; exact addC_ok R cs had todo q h' T
    · rw [if_neg k]
      obtain ⟨d, e1, e2⟩ := h c (List.mem_cons_self ..)
      obtain ⟨m1, m2⟩ := R.only _ _ e1
      have hr := rem_add l had d m1 (by rw [m2]; simpa using k)
      rw [m2] at hr
      refine addC_ok R cs _ _ q h' ⟨?_, fun o ho => ?_, ?_⟩
      · rw [List.length_append, List.length_singleton]; have := T.hl; omega
      · rcases List.mem_append.1 ho with ho | ho
        · exact T.td o ho
        · rw [List.mem_singleton.1 ho]; exact ⟨d, m1, e1, by omega⟩
      · rw [List.length_append, List.length_singleton]; have := T.q; omega
theorem reach_l2_e {p : TSp} {l : List TDef} (R : Right p l) (u : List Nm × List Nm × List Nm) (s r : List Nm) (K : List Nm → List (Option TDef) → List Nm → List Nm → Option TSemaUses) (hu : ∀ c ∈ u.1, ∃ d, mget p.named c = some d ∧ (d.Kind = 2 ∨ d.Kind = 3)) (hl : u.1.length ≤ 1000000) :
    ∀ (m i : Nat) (had : List Nm) (todo : List (Option TDef)) (q : Nat), i ≤ u.1.length → u.1.length < m + i → q ≤ 1000 → Todo p l had todo q →
      sema_reach_l2 p u s r K m i had todo = K (addC p.named (u.1.drop i) had todo).1 (addC p.named (u.1.drop i) had todo).2 s r := by
  intro m
  induction m with
  | zero => intro i had todo q h1 h2; omega
  | succ m ih =>
    intro i had todo q h1 h2 hq T
    rw [sema_reach_l2]
    by_cases c : i < u.1.length
    · rw [if_pos (by omega), at_nat, List.getElem?_eq_getElem c, bS, List.drop_eq_getElem_cons c, addC]
      have hc := hu _ (List.getElem_mem c)
      by_cases k : had.contains u.1[i] = true
      · rw [if_pos k, if_pos k, i64_ok (by omega), bS]
        exact ih (i + 1) had todo q c (by omega) hq T
      · have T1 := T.hl
        have T2 := T.q
        have T' := addC_ok R [u.1[i]] had todo q (fun c hc' => by rw [List.mem_singleton.1 hc']; exact hc) T
        rw [addC, if_neg k, addC] at T'
        rw [if_neg k, if_neg k, app_ok (by simp; omega), bS, app_ok (by simp; omega), bS, i64_ok (by omega), bS]
        exact ih (i + 1) _ _ q c (by omega) hq T'
    · rw [if_neg (by omega), List.drop_eq_nil_of_le (by omega)]
      rfl
theorem uses_body {p : TSp} {l : List TDef} (R : Right p l) (fu : Nat) (hf : 500 ≤ fu) (d : TDef) (hd : d ∈ l) (h1 : d.Kind ≠ 1) : (SemaV_run fu).uses_stats [] [] [] d.Body = some (cD d, sD d, rD d) ∧ (cD d).length ≤ 2000 ∧ (sD d).length ≤ 2000 ∧ (rD d).length ≤ 2000 := by
  have ok := R.ok.ok d hd
  have hn : nD d ≤ 2000 := Nat.le_trans (le_sum nD l d hd) R.ok.n
  rw [nD, if_pos h1] at hn
  have := uses_stats_t fu 39 d.Body [] [] [] (by omega) (ok.bl h1) (ok.bo h1) (by simp; omega) (by simp; omega) (by simp; omega)
  have a1 := flat_le (cS 39) (nS 39) (cS_le 39) d.Body
  have a2 := flat_le (sS 39) (nS 39) (sS_le 39) d.Body
  have a3 := flat_le (rS 39) (nS 39) (rS_le 39) d.Body
  exact ⟨by rw [this]; rfl, by rw [cD]; omega, by rw [sD]; omega, by rw [rD]; omega⟩
theorem reach_l1_e {p : TSp} {l : List TDef} (R : Right p l) (fu : Nat) (hf : 500 ≤ fu) : ∀ (n q : Nat) (had : List Nm) (todo : List (Option TDef)) (s r : List Nm), q < n → q ≤ 1000 → Todo p l had todo q → s.length + 2000 * q ≤ 1000000000 → r.length + 2000 * q ≤ 1000000000 →
    sema_reach_l1 fu p n had todo s r = rch p.named n had todo s r ∧ (∃ u, rch p.named n had todo s r = some u ∧ u.calls = []) := by
  intro n
  induction n with
  | zero => intro q had todo s r h1; omega
  | succ n ih =>
    intro q had todo s r h1 h2 T b1 b2
    rw [sema_reach_l1]
    cases todo with
    | nil => exact ⟨by rw [if_neg (by simp)]; rfl, _, rfl, rfl⟩
    | cons o t =>
      obtain ⟨d, hd, rfl, k1⟩ := T.td o (List.mem_cons_self ..)
      obtain ⟨u1, u2, u3, u4⟩ := uses_body R fu hf d hd k1
      have T2 := T.q
      have T1 := T.hl
      rw [List.length_cons] at T2
      have e1 : at_ (some d :: t) 0 = some (some d) := rfl
      have e2 : cut (some d :: t) 1 ((some d :: t).length : Int) = some t := by
        rw [cut, if_pos (by simp; omega)]
        simp
      have hc : ∀ c ∈ cD d, ∃ d', mget p.named c = some d' ∧ (d'.Kind = 2 ∨ d'.Kind = 3) := fun c hc => by
        obtain ⟨a, ha, hb⟩ := mem_flat hc
        exact callsS_c 39 a (R.cs d hd k1 a ha) c hb
      have T' : Todo p l had t (q - 1) := ⟨T1, fun o ho => T.td o (List.mem_cons_of_mem _ ho), by omega⟩
      have T3 := addC_ok R (cD d) had t (q - 1) hc T'
      rw [if_pos (by simp), e1, bS, e2, bS, bS, u1, bS, app_ok (by simp only []; omega), bS, app_ok (by simp only []; omega), bS, sema_reach_j1]
      rw [show ((0 : Int)) = ((0 : Nat) : Int) from rfl, reach_l2_e R (cD d, sD d, rD d) _ _ _ hc (by simp only []; omega) _ 0 had t (q - 1) (by omega) (by simp only []; omega) (by omega) T', List.drop_zero]
      rw [rch]
      exact ih (q - 1) _ _ (s ++ sD d) (r ++ rD d) (by omega) (by omega) T3 (by rw [List.length_append]; omega) (by rw [List.length_append]; omega)
theorem reach_e {p : TSp} {l : List TDef} (R : Right p l) (fu : Nat) (hf : 500 ≤ fu) (d : TDef) (hd : d ∈ l) (h1 : d.Kind ≠ 1) : sema_reach fu p d = rch p.named fu [] [some d] [] [] ∧ (∃ u, rch p.named fu [] [some d] [] [] = some u ∧ u.calls = []) := by
  have hr : rem_ l [] ≤ 30 := Nat.le_trans (List.length_filter_le _ _) R.ok.le
  exact reach_l1_e R fu hf fu 31 [] [some d] [] [] (by omega) (by omega) ⟨by simpa using hr, fun o ho => by rw [List.mem_singleton.1 ho]; exact ⟨d, hd, rfl, h1⟩, by simp; omega⟩ (by simp) (by simp)
def noU : TSemaUses := ⟨[], [], []⟩
def own3 (L : List (Nm × TSemaUses)) (b : Nm) : List TDef → Nm → Nm → Option (Nm × Nm)
  | [], w, r => some (w, r)
  | t :: ts, w, r => if t.Kind ≠ 4 then own3 L b ts w r else
      if ((mget L t.Name).getD noU).sends.contains b = true ∧ w ≠ [] then none else
      if ((mget L t.Name).getD noU).recvs.contains b = true ∧ r ≠ [] then none else
      own3 L b ts (if ((mget L t.Name).getD noU).sends.contains b = true then t.Name else w) (if ((mget L t.Name).getD noU).recvs.contains b = true then t.Name else r)
def own2 (L : List (Nm × TSemaUses)) (l : List TDef) : List TDef → Int → List TOwner → List TOwner × TFault
  | [], i, acc => (acc, ⟨0, 0⟩)
  | x :: xs, i, acc => if x.Kind ≠ 1 then own2 L l xs (i + 1) acc else
      match own3 L x.Name l [] [] with
      | none => ([], ⟨8, i⟩)
      | some (w, r) => own2 L l xs (i + 1) (acc ++ [⟨x.Name, w, r⟩])
def own1 (N : List (Nm × TDef)) (fu : Nat) : List TDef → List (Nm × TSemaUses) → List (Nm × TSemaUses)
  | [], L => L
  | d :: ds, L => if d.Kind = 4 then own1 N fu ds (mput L d.Name ((rch N fu [] [some d] [] []).getD noU)) else own1 N fu ds L
theorem own_l3_e (l : List TDef) (hl : l.length ≤ 30) (L : List (Nm × TSemaUses)) (i : Int) (acc : List TOwner) (x : TDef) (K : Int → List TOwner → Option (List TOwner × TFault)) (hi : 0 ≤ i ∧ i ≤ 1000) (ha : acc.length ≤ 1000) :
    ∀ (m j : Nat) (w r : Nm), j ≤ l.length → l.length < m + j → sema_owners_l3 l L i acc x K m j w r = match own3 L x.Name (l.drop j) w r with | none => some ([], ⟨8, i⟩) | some (w', r') => K (i + 1) (acc ++ [⟨x.Name, w', r'⟩]) := by
  intro m
  induction m with
  | zero => intro j w r h1 h2; omega
  | succ m ih =>
    intro j w r h1 h2
    rw [sema_owners_l3]
    by_cases c : j < l.length
    · rw [if_pos (by omega), at_nat, List.getElem?_eq_getElem c, bS, List.drop_eq_getElem_cons c, own3]
      have e0 : (TSemaUses.mk [] [] []) = noU := rfl
      have nx := fun w r => ih (j + 1) w r c (by omega)
      generalize l[j] = t at *
      by_cases k4 : t.Kind ≠ 4
      · rw [if_pos k4, if_pos k4, i64_ok (by omega), bS]
        exact nx w r
      · rw [if_neg k4, if_neg k4, e0]
        have J2 : ∀ w', sema_owners_j2 L i x j r t (sema_owners_l3 l L i acc x K m) w' = if ((mget L t.Name).getD noU).recvs.contains x.Name = true ∧ r ≠ [] then some ([], ⟨8, i⟩) else
            match own3 L x.Name (l.drop (j + 1)) w' (if ((mget L t.Name).getD noU).recvs.contains x.Name = true then t.Name else r) with | none => some ([], ⟨8, i⟩) | some (w', r') => K (i + 1) (acc ++ [⟨x.Name, w', r'⟩]) := by
          intro w'
          rw [sema_owners_j2, e0]
          by_cases q : ((mget L t.Name).getD noU).recvs.contains x.Name = true
          · rw [if_pos q]
            by_cases z : r ≠ []
            · rw [if_pos z, if_pos ⟨q, z⟩]
            · rw [if_neg z, if_neg (fun h => z h.2), if_pos q, sema_owners_j3, i64_ok (by omega), bS]
              exact nx _ _
          · rw [if_neg q, if_neg (fun h => q h.1), if_neg q, sema_owners_j3, i64_ok (by omega), bS]
            exact nx _ _
        by_cases q : ((mget L t.Name).getD noU).sends.contains x.Name = true
        · rw [if_pos q]
          by_cases z : w ≠ []
          · rw [if_pos z, if_pos ⟨q, z⟩]
          · rw [if_neg z, if_neg (fun h => z h.2), if_pos q, J2]
            split <;> rfl
        · rw [if_neg q, if_neg (fun h => q h.1), if_neg q, J2]
          split <;> rfl
    · rw [if_neg (by omega), List.drop_eq_nil_of_le (by omega), app_ok (by simp; omega), bS, i64_ok (by omega), bS]
      rfl
theorem own_l2_e (l : List TDef) (hl : l.length ≤ 30) (L : List (Nm × TSemaUses)) : ∀ (m i : Nat) (acc : List TOwner), i ≤ l.length → l.length < m + i → acc.length ≤ i → sema_owners_l2 l L m i acc = some (own2 L l (l.drop i) i acc) := by
  intro m
  induction m with
  | zero => intro i acc h1 h2; omega
  | succ m ih =>
    intro i acc h1 h2 h3
    rw [sema_owners_l2]
    by_cases c : i < l.length
    · rw [if_pos (by omega), at_nat, List.getElem?_eq_getElem c, bS, List.drop_eq_getElem_cons c, own2]
      by_cases k1 : l[i].Kind ≠ 1
      · rw [if_pos k1, if_pos k1, i64_ok (by omega), bS]
        exact ih (i + 1) acc c (by omega) (by omega)
      · rw [if_neg k1, if_neg k1, show ((0 : Int)) = ((0 : Nat) : Int) from rfl, own_l3_e l hl L i acc l[i] _ (by omega) (by omega) _ 0 [] [] (by omega) (by omega), List.drop_zero]
        cases h : own3 L l[i].Name l [] [] with
        | none => rfl
        | some v => exact ih (i + 1) _ c (by omega) (by simp; omega)
    · rw [if_neg (by omega), List.drop_eq_nil_of_le (by omega)]
      rfl
theorem own_l1_e {p : TSp} {l : List TDef} (R : Right p l) (fu : Nat) (hf : 500 ≤ fu) (f : TFault) : ∀ (m i : Nat) (L : List (Nm × TSemaUses)), i ≤ l.length → l.length < m + i → sema_owners_l1 fu l (p, f) m i L = some (own2 (own1 p.named fu (l.drop i) L) l l 0 []) := by
  have hl := R.ok.le
  intro m
  induction m with
  | zero => intro i L h1 h2; omega
  | succ m ih =>
    intro i L h1 h2
    rw [sema_owners_l1]
    by_cases c : i < l.length
    · have e0 : at_ l (i : Int) = some l[i] := by rw [at_nat, List.getElem?_eq_getElem c]
      rw [if_pos (by omega), e0, bS, List.drop_eq_getElem_cons c, own1]
      by_cases k4 : l[i].Kind = 4
      · obtain ⟨h1', u, h2', -⟩ := reach_e R fu hf l[i] (List.getElem_mem _) (by omega)
        rw [if_pos k4, if_pos k4]
        simp only [bS]
        rw [h1', h2', bS, sema_owners_j1, i64_ok (by omega), bS]
        exact ih (i + 1) _ c (by omega)
      · rw [if_neg k4, if_neg k4, i64_ok (by omega), bS]
        exact ih (i + 1) L c (by omega)
    · rw [if_neg (by omega), List.drop_eq_nil_of_le (by omega)]
      exact own_l2_e l hl L (l.length + 1) 0 [] (by omega) (by omega) (by simp)
theorem sema_owners_t (fu : Nat) (hf : 500 ≤ fu) (l : List TDef) : ∃ p f, sema_named fu l = some (p, f) ∧ ((f.Err ≠ 0 ∧ sema_owners fu l = some ([], f)) ∨ (f.Err = 0 ∧ Right p l ∧ sema_owners fu l = some (own2 (own1 p.named fu l []) l l 0 []))) := by
  obtain ⟨p, f, h1, h2⟩ := sema_named_t fu hf l
  refine ⟨p, f, h1, ?_⟩
  rw [sema_owners, h1, bS]
  by_cases z : f.Err = 0
  · rw [if_neg (by simpa using z)]
    exact .inr ⟨z, h2 z, own_l1_e (h2 z) fu hf f (l.length + 1) 0 [] (by omega) (by omega)⟩
  · rw [if_pos z]
    exact .inl ⟨z, rfl⟩
end Go.Y
namespace Go.Y
open Go.Wk Go.Xt
def Who (l : List TDef) (w : Nm) : Prop := w = [] ∨ ∃ t ∈ l, t.Kind = 4 ∧ t.Name = w
theorem own3_who (L : List (Nm × TSemaUses)) (b : Nm) (l : List TDef) : ∀ (ts : List TDef) (w r w' r' : Nm), (∀ t ∈ ts, t ∈ l) → Who l w → Who l r → own3 L b ts w r = some (w', r') → Who l w' ∧ Who l r'
  | [], w, r, w', r', h, h1, h2, e => by
    cases e; exact ⟨h1, h2⟩
  | t :: ts, w, r, w', r', h, h1, h2, e => by
    have h' : ∀ t ∈ ts, t ∈ l := fun y hy => h y (List.mem_cons_of_mem _ hy)
    rw [own3] at e
    by_cases k : t.Kind ≠ 4
    · rw [if_pos k] at e
      exact own3_who L b l ts w r w' r' h' h1 h2 e
    · rw [if_neg k] at e
      split at e
      · cases e
      · split at e
        · cases e
        · have ht : Who l t.Name := .inr ⟨t, h t (List.mem_cons_self ..), Decidable.not_not.1 k, rfl⟩
          refine own3_who L b l ts _ _ w' r' h' ?_ ?_ e
          · split
            · exact ht
            · exact h1
          · split
            · exact ht
            · exact h2
def Fit (l : List TDef) : List TDef → List TOwner → Prop
  | [], os => os = []
  | x :: xs, os => (x.Kind ≠ 1 ∧ Fit l xs os) ∨ (x.Kind = 1 ∧ ∃ o os', os = o :: os' ∧ o.Box = x.Name ∧ Who l o.Writer ∧ Who l o.Reader ∧ Fit l xs os')
theorem own2_fit (L : List (Nm × TSemaUses)) (l : List TDef) : ∀ (xs : List TDef) (i : Int) (acc res : List TOwner) (f : TFault), own2 L l xs i acc = (res, f) → (f.Err ≠ 0 ∧ res = []) ∨ (f.Err = 0 ∧ ∃ os, res = acc ++ os ∧ Fit l xs os)
  | [], i, acc, res, f, h => by
    cases h
    exact .inr ⟨rfl, [], by simp, rfl⟩
  | x :: xs, i, acc, res, f, h => by
    rw [own2] at h
    by_cases k : x.Kind ≠ 1
    · rw [if_pos k] at h
      rcases own2_fit L l xs _ _ _ _ h with h | ⟨h1, os, h2, h3⟩
      · exact .inl h
      · exact .inr ⟨h1, os, h2, .inl ⟨k, h3⟩⟩
    · rw [if_neg k] at h
      cases e : own3 L x.Name l [] [] with
      | none =>
        rw [e] at h
        cases h
        exact .inl ⟨(by decide : (8 : Int) ≠ 0), rfl⟩
      | some v =>
        obtain ⟨w, r⟩ := v
        rw [e] at h
        obtain ⟨w1, w2⟩ := own3_who L x.Name l l [] [] w r (fun _ h => h) (.inl rfl) (.inl rfl) e
        rcases own2_fit L l xs _ _ _ _ h with h | ⟨h1, os, h2, h3⟩
        · exact .inl h
        · exact .inr ⟨h1, ⟨x.Name, w, r⟩ :: os, by rw [h2, List.append_assoc]; rfl, .inr ⟨Decidable.not_not.1 k, _, _, rfl, rfl, w1, w2, h3⟩⟩
end Go.Y
namespace Go.Y
open Go.Wk Go.Xt
def tx_2 : List UInt8 := [98,111,120,32,98,32,110,117,109,32,49,32,59,32,116,97,115,107,32,99,32,123,32,111,117,116,32,114,101,99,118,32,40,32,98,32,41,32,59,32,125,32,116,97,115,107,32,97,32,123,32,115,101,110,100,32,98,32,55,32,59,32,125]
def gr_names_l1 (p_1 : List TDef) : Nat → Int → (List (List UInt8)) → Option (List (List UInt8))
  | 0, _, _ => none
  | n + 1, i37, l40 =>
    if i37 < (p_1.length : Int) then
      (at_ p_1 i37).bind fun x74 =>
      if x74.Kind = 4 then
        (app l40 [x74.Name]).bind fun l95 =>
        (i64 (i37 + 1)).bind fun i98 =>
        gr_names_l1 p_1 n i98 l95
      else
        (i64 (i37 + 1)).bind fun i100 =>
        gr_names_l1 p_1 n i100 l40
    else
      some l40
def gr_names  (p_1 : List TDef) : Option (List (List UInt8)) :=
  gr_names_l1 p_1 (p_1.length + 1) 0 []
def gr_edges_j1 (i44 : Int) (l47 : List TEdge) (x77 : TOwner) (k_gr_edges_l1 : Int → (List TEdge) → Option (List TEdge × TFault)) (b87 : Bool) : Option (List TEdge × TFault) :=
  if b87 = true then
    (app l47 [(TEdge.mk x77.Box x77.Writer x77.Reader)]).bind fun l95 =>
    (i64 (i44 + 1)).bind fun i98 =>
    k_gr_edges_l1 i98 l95
  else
    (i64 (i44 + 1)).bind fun i100 =>
    k_gr_edges_l1 i100 l47
def gr_edges_l1 (r9 : List TOwner × TFault) : Nat → Int → (List TEdge) → Option (List TEdge × TFault)
  | 0, _, _ => none
  | n + 1, i44, l47 =>
    if i44 < (r9.1.length : Int) then
      (at_ r9.1 i44).bind fun x77 =>
      if x77.Writer ≠ [] then
        gr_edges_j1 i44 l47 x77 (gr_edges_l1 r9 n) (decide (x77.Reader ≠ []))
      else
        gr_edges_j1 i44 l47 x77 (gr_edges_l1 r9 n) false
    else
      some (l47, r9.2)
def gr_edges (fu : Nat)  (p_1 : List TDef) : Option (List TEdge × TFault) :=
  (sema_owners fu p_1).bind fun r9 =>
  if r9.2.Err ≠ 0 then
    some (([] : List TEdge), r9.2)
  else
    gr_edges_l1 r9 (r9.1.length + 1) 0 []
def idxf_e_l1 (p_1 : List TEdge) (p_2 : TEdge → Option Bool) : Nat → Int → Option Int
  | 0, _ => none
  | n + 1, i20 =>
    if i20 < (p_1.length : Int) then
      (at_ p_1 i20).bind fun x37 =>
      (p_2 x37).bind fun b45 =>
      if b45 = true then
        some i20
      else
        (i64 (i20 + 1)).bind fun i49 =>
        idxf_e_l1 p_1 p_2 n i49
    else
      some (-1)
def idxf_e  (p_1 : List TEdge) (p_2 : TEdge → Option Bool) : Option Int :=
  idxf_e_l1 p_1 p_2 (p_1.length + 1) 0
def conf_e  (p_1 : List TEdge) (p_2 : TEdge → Option Bool) : Option Bool :=
  (idxf_e p_1 p_2).bind fun r7 =>
  some (decide ((0 : Int) ≤ r7))
def idxf_s_l1 (p_1 : List (List UInt8)) (p_2 : (List UInt8) → Option Bool) : Nat → Int → Option Int
  | 0, _ => none
  | n + 1, i20 =>
    if i20 < (p_1.length : Int) then
      (at_ p_1 i20).bind fun x37 =>
      (p_2 x37).bind fun b45 =>
      if b45 = true then
        some i20
      else
        (i64 (i20 + 1)).bind fun i49 =>
        idxf_s_l1 p_1 p_2 n i49
    else
      some (-1)
def idxf_s  (p_1 : List (List UInt8)) (p_2 : (List UInt8) → Option Bool) : Option Int :=
  idxf_s_l1 p_1 p_2 (p_1.length + 1) 0
def gr_o11  (p_1 : TEdge) (p_2 : List UInt8) (p_3 : List (List UInt8)) : Option Bool :=
  if p_1.To = p_2 then
    some (p_3.contains p_1.From)
  else
    some false
def gr_o1  (p_1 : List UInt8) (p_2 : List TEdge) (p_3 : List (List UInt8)) : Option Bool :=
  (conf_e p_2 (fun x_ => gr_o11 x_ p_1 p_3)).bind fun r17 =>
  some (!r17)
def gr_order_j1 (r14 : List TEdge × TFault)  : Option (List (List UInt8) × List (List UInt8) × TFault) :=
  some (([] : List (List UInt8)), ([] : List (List UInt8)), r14.2)
def gr_order_j2 (r14 : List TEdge × TFault) (l74 l78 : List (List UInt8))  : Option (List (List UInt8) × List (List UInt8) × TFault) :=
  some (l78, l74, r14.2)
def gr_order_l1 (r14 : List TEdge × TFault) : Nat → (List (List UInt8)) → (List (List UInt8)) → Option (List (List UInt8) × List (List UInt8) × TFault)
  | 0, _, _ => none
  | n + 1, l74, l78 =>
    (idxf_s l74 (fun x_ => gr_o1 x_ r14.1 l74)).bind fun r133 =>
    if r133 < 0 then
      gr_order_j2 r14 l74 l78
    else
      (at_ l74 r133).bind fun x147 =>
      (app l78 [x147]).bind fun l165 =>
      (i64 (r133 + 1)).bind fun i168 =>
      (del_ l74 r133 i168).bind fun l170 =>
      gr_order_l1 r14 n l170 l165
def gr_order (fu : Nat)  (p_1 : List TDef) : Option (List (List UInt8) × List (List UInt8) × TFault) :=
  (gr_edges fu p_1).bind fun r14 =>
  if r14.2.Err ≠ 0 then
    gr_order_j1 r14
  else
    (gr_names p_1).bind fun r24 =>
    gr_order_l1 r14 fu r24 []
def l15_alive (fu : Nat)   : Option Bool :=
  (syn_read fu tx_2).bind fun r1 =>
  (gr_order fu r1.1).bind fun r9 =>
  if r1.2.Err = 0 then
    if r9.2.2.Err = 0 then
      if (r9.1.length : Int) = 2 then
        (at_ r9.1 0).bind fun x23 =>
        if x23 = [97] then
          (at_ r9.1 1).bind fun x32 =>
          if x32 = [99] then
            some (decide ((r9.2.1.length : Int) = 0))
          else
            some false
        else
          some false
      else
        some false
    else
      some false
  else
    some false
def law_order_l4 (r19 : List TEdge × TFault) (l55 : List (List UInt8 × Int)) (i231 : Int) (x300 : List UInt8) (k_law_order_l3 : Int → Option Bool) : Nat → Bool → Int → Option Bool
  | 0, _, _ => none
  | n + 1, b329, i330 =>
    if i330 < (r19.1.length : Int) then
      (at_ r19.1 i330).bind fun x350 =>
      if b329 = true then
        (i64 (i330 + 1)).bind fun i361 =>
        law_order_l4 r19 l55 i231 x300 k_law_order_l3 n true i361
      else
        if x350.To = x300 then
          (i64 (i330 + 1)).bind fun i366 =>
          law_order_l4 r19 l55 i231 x300 k_law_order_l3 n (decide (((mget l55 x350.From).getD 0) = 0)) i366
        else
          (i64 (i330 + 1)).bind fun i368 =>
          law_order_l4 r19 l55 i231 x300 k_law_order_l3 n false i368
    else
      if b329 = true then
        (i64 (i231 + 1)).bind fun i371 =>
        k_law_order_l3 i371
      else
        some false
def law_order_j3 (i396 : Int) (k_law_order_l5 : Int → Option Bool) (b432 : Bool) : Option Bool :=
  if b432 = true then
    some false
  else
    (i64 (i396 + 1)).bind fun i445 =>
    k_law_order_l5 i445
def law_order_l5 (r19 : List TEdge × TFault) (l55 : List (List UInt8 × Int)) : Nat → Int → Option Bool
  | 0, _ => none
  | n + 1, i396 =>
    if i396 < (r19.1.length : Int) then
      (at_ r19.1 i396).bind fun x422 =>
      if (0 : Int) < ((mget l55 x422.To).getD 0) then
        if ((mget l55 x422.From).getD 0) = 0 then
          law_order_j3 i396 (law_order_l5 r19 l55 n) true
        else
          law_order_j3 i396 (law_order_l5 r19 l55 n) (decide (((mget l55 x422.To).getD 0) ≤ ((mget l55 x422.From).getD 0)))
      else
        law_order_j3 i396 (law_order_l5 r19 l55 n) false
    else
      some true
def law_order_l3 (r8 : List (List UInt8) × List (List UInt8) × TFault) (r19 : List TEdge × TFault) (l55 : List (List UInt8 × Int)) : Nat → Int → Option Bool
  | 0, _ => none
  | n + 1, i231 =>
    if i231 < (r8.2.1.length : Int) then
      (at_ r8.2.1 i231).bind fun x300 =>
      if (0 : Int) < ((mget l55 x300).getD 0) then
        some false
      else
        law_order_l4 r19 l55 i231 x300 (law_order_l3 r8 r19 l55 n) (r19.1.length + 1) false 0
    else
      law_order_l5 r19 l55 (r19.1.length + 1) 0
def law_order_j2 (r8 : List (List UInt8) × List (List UInt8) × TFault) (r19 : List TEdge × TFault) (l55 : List (List UInt8 × Int)) (b159 : Bool) : Option Bool :=
  if b159 = true then
    some false
  else
    law_order_l3 r8 r19 l55 (r8.2.1.length + 1) 0
def law_order_l2 (p_1 : List TDef) (r8 : List (List UInt8) × List (List UInt8) × TFault) (r19 : List TEdge × TFault) (l55 : List (List UInt8 × Int)) : Nat → Int → Int → Option Bool
  | 0, _, _ => none
  | n + 1, i111, i112 =>
    if i112 < (p_1.length : Int) then
      (at_ p_1 i112).bind fun x136 =>
      if x136.Kind = 4 then
        (i64 (i111 + 1)).bind fun i153 =>
        (i64 (i112 + 1)).bind fun i155 =>
        law_order_l2 p_1 r8 r19 l55 n i153 i155
      else
        (i64 (i112 + 1)).bind fun i157 =>
        law_order_l2 p_1 r8 r19 l55 n i111 i157
    else
      if (l55.length : Int) ≠ (r8.1.length : Int) then
        law_order_j2 r8 r19 l55 true
      else
        (i64 ((r8.1.length : Int) + (r8.2.1.length : Int))).bind fun i161 =>
        law_order_j2 r8 r19 l55 (decide (i161 ≠ i111))
def law_order_l1 (p_1 : List TDef) (r8 : List (List UInt8) × List (List UInt8) × TFault) (r19 : List TEdge × TFault) : Nat → Int → (List (List UInt8 × Int)) → Option Bool
  | 0, _, _ => none
  | n + 1, i52, l55 =>
    if i52 < (r8.1.length : Int) then
      (at_ r8.1 i52).bind fun x75 =>
      (i64 (i52 + 1)).bind fun i83 =>
      (i64 (i52 + 1)).bind fun i88 =>
      law_order_l1 p_1 r8 r19 n i88 (mput l55 x75 i83)
    else
      law_order_l2 p_1 r8 r19 l55 (p_1.length + 1) 0 0
def law_order_j1 (p_1 : List TDef) (r8 : List (List UInt8) × List (List UInt8) × TFault) (r19 : List TEdge × TFault) (b27 : Bool) : Option Bool :=
  if b27 = true then
    if (andL [(decide (r8.2.2.Err = r19.2.Err)), (decide (r8.2.2.At = r19.2.At))]) = true then
      (i64 ((r8.1.length : Int) + (r8.2.1.length : Int))).bind fun i33 =>
      some (decide (i33 = 0))
    else
      some false
  else
    law_order_l1 p_1 r8 r19 (r8.1.length + 1) 0 ([] : List (List UInt8 × Int))
def law_order (fu : Nat)  (p_1 : List TDef) : Option Bool :=
  (l15_alive fu).bind fun r4 =>
  if r4 = true then
    (gr_order fu p_1).bind fun r8 =>
    (gr_edges fu p_1).bind fun r19 =>
    if r8.2.2.Err ≠ 0 then
      law_order_j1 p_1 r8 r19 true
    else
      law_order_j1 p_1 r8 r19 (decide (r19.2.Err ≠ 0))
  else
    some false
end Go.Y
namespace Go.Y
open Go.Wk Go.Xt
theorem l15_alive_ok : l15_alive 60001 = some true := by decide +kernel
def tks (l : List TDef) : List Nm := (l.filter fun d => decide (d.Kind = 4)).map (·.Name)
theorem names_t (l : List TDef) (hl : l.length ≤ 30) : gr_names l = some (tks l) := by
  have L : ∀ (m i : Nat) (acc : List Nm), i ≤ l.length → l.length < m + i → acc.length ≤ i → gr_names_l1 l m i acc = some (acc ++ tks (l.drop i)) := by
    intro m
    induction m with
    | zero => intro i acc h1 h2; omega
    | succ m ih =>
      intro i acc h1 h2 h3
      rw [gr_names_l1]
      by_cases c : i < l.length
      · rw [if_pos (by omega), at_nat, List.getElem?_eq_getElem c, bS]
        rw [List.drop_eq_getElem_cons c]
        by_cases k : l[i].Kind = 4
        · rw [if_pos k, app_ok (by simp; omega), bS, i64_ok (by omega), bS]
          refine (ih (i + 1) _ c (by omega) (by simp; omega)).trans ?_
          rw [tks, tks, List.filter_cons_of_pos (by simpa using k), List.map_cons, List.append_assoc, List.singleton_append]
        · rw [if_neg k, i64_ok (by omega), bS]
          refine (ih (i + 1) _ c (by omega) (by omega)).trans ?_
          rw [tks, tks, List.filter_cons_of_neg (by simpa using k)]
      · rw [if_neg (by omega), List.drop_eq_nil_of_le (by omega)]
        simp [tks]
  have := L (l.length + 1) 0 [] (by omega) (by omega) (by simp)
  simpa [gr_names] using this
theorem tks_mem {l : List TDef} {n : Nm} : n ∈ tks l ↔ ∃ t ∈ l, t.Kind = 4 ∧ t.Name = n := by
  simp only [tks, List.mem_map, List.mem_filter, decide_eq_true_eq]
  constructor
  · rintro ⟨t, ⟨h1, h2⟩, h3⟩; exact ⟨t, h1, h2, h3⟩
  · rintro ⟨t, h1, h2, h3⟩; exact ⟨t, ⟨h1, h2⟩, h3⟩
theorem tks_nodup {l : List TDef} (h : l.Pairwise fun a b => a.Name ≠ b.Name) : (tks l).Nodup := by
  unfold tks
  rw [List.Nodup, List.pairwise_map]
  exact h.filter _
theorem fit_who {l : List TDef} : ∀ (xs : List TDef) (os : List TOwner), Fit l xs os → ∀ o ∈ os, Who l o.Writer ∧ Who l o.Reader
  | [], os, h, o, ho => by
    have : os = [] := h
    rw [this] at ho; cases ho
  | x :: xs, os, h, o, ho => by
    rcases h with ⟨-, h⟩ | ⟨-, o', os', rfl, -, h1, h2, h⟩
    · exact fit_who xs os h o ho
    · rcases List.mem_cons.1 ho with rfl | ho
      · exact ⟨h1, h2⟩
      · exact fit_who xs os' h o ho
theorem fit_le {l : List TDef} : ∀ (xs : List TDef) (os : List TOwner), Fit l xs os → os.length ≤ xs.length
  | [], os, h => by
    have : os = [] := h
    simp [this]
  | x :: xs, os, h => by
    rcases h with ⟨-, h⟩ | ⟨-, o, os', rfl, -, -, -, h⟩
    · have := fit_le xs os h; simp; omega
    · have := fit_le xs os' h; simp; omega
theorem edges_t (l : List TDef) : ∃ E f, gr_edges 60001 l = some (E, f) ∧ ((f.Err ≠ 0 ∧ E = []) ∨ (f.Err = 0 ∧ l.length ≤ 30 ∧ (l.Pairwise fun a b => a.Name ≠ b.Name) ∧ E.length ≤ 30 ∧ ∀ x ∈ E, x.From ∈ tks l)) := by
  obtain ⟨p, f, h1, h2⟩ := sema_owners_t 60001 (by decide) l
  have bad : ∀ g : TFault, g.Err ≠ 0 → sema_owners 60001 l = some ([], g) → ∃ E f, gr_edges 60001 l = some (E, f) ∧ ((f.Err ≠ 0 ∧ E = []) ∨ (f.Err = 0 ∧ l.length ≤ 30 ∧ (l.Pairwise fun a b => a.Name ≠ b.Name) ∧ E.length ≤ 30 ∧ ∀ x ∈ E, x.From ∈ tks l)) := by
    intro g hg h
    rw [gr_edges, h, bS, if_pos hg]
    exact ⟨_, _, rfl, .inl ⟨hg, rfl⟩⟩
  rcases h2 with ⟨z, h⟩ | ⟨z, R, h⟩
  · exact bad f z h
  · generalize ho : own2 (own1 p.named 60001 l []) l l 0 [] = res at *
    obtain ⟨os, g⟩ := res
    rcases own2_fit _ _ _ _ _ _ _ ho with ⟨e, rfl⟩ | ⟨e, os', rfl, hF⟩
    · exact bad g e h
    · have hw := fit_who _ _ hF
      have hl := R.ok.le
      have hol := fit_le _ _ hF
      rw [gr_edges, h, bS, if_neg (by simpa using e)]
      simp only [List.nil_append] at *
      have L : ∀ (m i : Nat) (acc : List TEdge), i ≤ os.length → os.length < m + i → acc.length ≤ i → (∀ x ∈ acc, x.From ∈ tks l) → ∃ E, gr_edges_l1 (os, g) m i acc = some (E, g) ∧ E.length ≤ os.length ∧ ∀ x ∈ E, x.From ∈ tks l := by
        intro m
        induction m with
        | zero => intro i acc h1 h2; omega
        | succ m ih =>
          intro i acc h1 h2 h3 h4
          rw [gr_edges_l1]
          by_cases c : i < os.length
          · simp only []
            rw [if_pos (by omega), at_nat, List.getElem?_eq_getElem c, bS]
            have J : ∀ b, (b = true → os[i].Writer ≠ []) → ∃ E, gr_edges_j1 (i : Int) acc os[i] (gr_edges_l1 (os, g) m) b = some (E, g) ∧ E.length ≤ os.length ∧ ∀ x ∈ E, x.From ∈ tks l := by
              intro b hb
              rw [gr_edges_j1]
              by_cases q : b = true
              · rw [if_pos q, app_ok (by simp; omega), bS, i64_ok (by omega), bS]
                refine ih (i + 1) _ c (by omega) (by simp; omega) fun x hx => ?_
                rcases List.mem_append.1 hx with hx | hx
                · exact h4 x hx
                · rw [List.mem_singleton.1 hx]
                  rcases (hw _ (List.getElem_mem c)).1 with h | h
                  · exact absurd h (hb q)
                  · exact tks_mem.2 h
              · rw [if_neg q, i64_ok (by omega), bS]
                exact ih (i + 1) _ c (by omega) (by omega) h4
            by_cases w : os[i].Writer ≠ []
            · rw [if_pos w]; exact J _ fun _ => w
            · rw [if_neg w]; exact J _ fun h => by cases h
          · simp only []
            rw [if_neg (by omega)]
            exact ⟨acc, rfl, by omega, h4⟩
      obtain ⟨E, e1, e2, e3⟩ := L (os.length + 1) 0 [] (by omega) (by omega) (by simp) (by simp)
      exact ⟨E, g, e1, .inr ⟨e, hl, R.nd, by omega, e3⟩⟩
theorem conf_t (E : List TEdge) (hE : E.length ≤ 30) (g : TEdge → Bool) (f : TEdge → Option Bool) (hf : ∀ x, f x = some (g x)) : conf_e E f = some (E.any g) := by
  have L : ∀ (m i : Nat), i ≤ E.length → E.length < m + i → ∃ r, idxf_e_l1 E f m i = some r ∧ (decide (0 ≤ r) = (E.drop i).any g) := by
    intro m
    induction m with
    | zero => intro i h1 h2; omega
    | succ m ih =>
      intro i h1 h2
      rw [idxf_e_l1]
      by_cases c : i < E.length
      · rw [if_pos (by omega), at_nat, List.getElem?_eq_getElem c, bS, hf, bS, List.drop_eq_getElem_cons c, List.any_cons]
        cases h : g E[i] with
        | true => rw [if_pos rfl]; exact ⟨_, rfl, by simp⟩
        | false =>
          rw [if_neg (by decide), i64_ok (by omega), bS]
          obtain ⟨r, e1, e2⟩ := ih (i + 1) c (by omega)
          exact ⟨r, e1, by simpa using e2⟩
      · rw [if_neg (by omega), List.drop_eq_nil_of_le (by omega)]
        exact ⟨_, rfl, by simp⟩
  obtain ⟨r, e1, e2⟩ := L (E.length + 1) 0 (by omega) (by omega)
  rw [conf_e, idxf_e, show ((0 : Int)) = ((0 : Nat) : Int) from rfl, e1, bS]
  rw [List.drop_zero] at e2
  exact congrArg some e2
def hears (E : List TEdge) (left : List Nm) (t : Nm) : Bool := E.any fun x => decide (x.To = t) && left.contains x.From
theorem o1_t (E : List TEdge) (hE : E.length ≤ 30) (left : List Nm) (t : Nm) : gr_o1 t E left = some (!hears E left t) := by
  rw [gr_o1, conf_t E hE (fun x => decide (x.To = t) && left.contains x.From) _ fun x => ?_, bS, hears]
  rw [gr_o11]
  by_cases c : x.To = t
  · rw [if_pos c, decide_eq_true c, Bool.true_and]
  · rw [if_neg c, decide_eq_false c, Bool.false_and]
theorem idx_t (l : List Nm) (hl : l.length ≤ 30) (g : Nm → Bool) (f : Nm → Option Bool) (hf : ∀ x, f x = some (g x)) : (idxf_s l f = some (-1) ∧ ∀ x ∈ l, g x = false) ∨ ∃ k : Nat, ∃ h : k < l.length, idxf_s l f = some (k : Int) ∧ g l[k] = true := by
  have L : ∀ (m i : Nat), i ≤ l.length → l.length < m + i → (idxf_s_l1 l f m i = some (-1) ∧ ∀ x ∈ l.drop i, g x = false) ∨ ∃ k : Nat, ∃ h : k < l.length, idxf_s_l1 l f m i = some (k : Int) ∧ g l[k] = true := by
    intro m
    induction m with
    | zero => intro i h1 h2; omega
    | succ m ih =>
      intro i h1 h2
      rw [idxf_s_l1]
      by_cases c : i < l.length
      · rw [if_pos (by omega), at_nat, List.getElem?_eq_getElem c, bS, hf, bS, List.drop_eq_getElem_cons c]
        cases h : g l[i] with
        | true => rw [if_pos rfl]; exact .inr ⟨i, c, rfl, h⟩
        | false =>
          rw [if_neg (by decide), i64_ok (by omega), bS]
          rcases ih (i + 1) c (by omega) with ⟨e1, e2⟩ | e
          · refine .inl ⟨e1, fun x hx => ?_⟩
            rcases List.mem_cons.1 hx with rfl | hx
            · exact h
            · exact e2 x hx
          · exact .inr e
      · rw [if_neg (by omega), List.drop_eq_nil_of_le (by omega)]
        exact .inl ⟨rfl, by simp⟩
  have := L (l.length + 1) 0 (by omega) (by omega)
  simpa [idxf_s] using this
structure OrdT (T : List Nm) (E : List TEdge) (order left : List Nm) : Prop where
  nd : (order ++ left).Nodup
  len : order.length + left.length = T.length
  mem : ∀ n ∈ T, n ∈ order ∨ n ∈ left
  bh : ∀ x ∈ E, ∀ (i : Nat), order[i]? = some x.To → ∃ j, j < i ∧ order[j]? = some x.From
theorem take_drop_perm {α : Type} (l : List α) (k : Nat) (h : k < l.length) : l.Perm (l[k] :: (l.take k ++ l.drop (k + 1))) := by
  have e : l = l.take k ++ l[k] :: l.drop (k + 1) := by rw [← List.drop_eq_getElem_cons h, List.take_append_drop]
  have : (l.take k ++ l[k] :: l.drop (k + 1)).Perm (l[k] :: (l.take k ++ l.drop (k + 1))) := List.perm_middle
  rw [← e] at this
  exact this
theorem OrdT.step {T : List Nm} {E : List TEdge} {order left : List Nm} (h : OrdT T E order left) (hF : ∀ x ∈ E, x.From ∈ T) {k : Nat} (hk : k < left.length) (hh : hears E left left[k] = false) : OrdT T E (order ++ [left[k]]) (left.take k ++ left.drop (k + 1)) := by
  have hp := take_drop_perm left k hk
  have hp2 : (order ++ left).Perm ((order ++ [left[k]]) ++ (left.take k ++ left.drop (k + 1))) := by
    rw [List.append_assoc]
    exact hp.append_left order
  refine ⟨hp2.nodup_iff.1 h.nd, ?_, fun n hn => ?_, fun x hx i hi => ?_⟩
  · have := hp2.length_eq
    simp only [List.length_append] at this ⊢
    have := h.len
    omega
  · have : n ∈ order ++ left := by
      rcases h.mem n hn with h | h
      · exact List.mem_append.2 (.inl h)
      · exact List.mem_append.2 (.inr h)
    exact List.mem_append.1 (hp2.mem_iff.1 this)
  · rcases Nat.lt_or_ge i order.length with c | c
    · rw [List.getElem?_append_left c] at hi
      obtain ⟨j, h1, h2⟩ := h.bh x hx i hi
      exact ⟨j, h1, by rw [List.getElem?_append_left (by omega)]; exact h2⟩
    · rw [List.getElem?_append_right c] at hi
      have hi0 : i - order.length = 0 := by
        have := (List.getElem?_eq_some_iff.1 hi).1
        simp at this; omega
      rw [hi0] at hi
      have ht : left[k] = x.To := by simpa using hi
      have hnl : x.From ∉ left := by
        intro hm
        have : hears E left left[k] = true := by
          rw [hears, List.any_eq_true]
          exact ⟨x, hx, by simp [ht, hm]⟩
        rw [this] at hh; cases hh
      rcases h.mem x.From (hF x hx) with hm | hm
      · obtain ⟨j, hj, e⟩ := List.getElem_of_mem hm
        exact ⟨j, by omega, by rw [List.getElem?_append_left hj, List.getElem?_eq_getElem hj, e]⟩
      · exact absurd hm hnl
theorem order_l1 (T : List Nm) (E : List TEdge) (f : TFault) (hT : T.length ≤ 30) (hE : E.length ≤ 30) (hF : ∀ x ∈ E, x.From ∈ T) : ∀ (m : Nat) (left order : List Nm), left.length < m → OrdT T E order left → ∃ o r, gr_order_l1 (E, f) m left order = some (o, r, f) ∧ OrdT T E o r ∧ ∀ t ∈ r, hears E r t = true := by
  intro m
  induction m with
  | zero => intro left order h; omega
  | succ m ih =>
    intro left order h O
    have hlen := O.len
    rw [gr_order_l1]
    simp only []
    rcases idx_t left (by omega) (fun t => !hears E left t) (fun x_ => gr_o1 x_ E left) (fun x => o1_t E hE left x) with ⟨e1, e2⟩ | ⟨k, hk, e1, e2⟩
    · rw [e1, bS, if_pos (by decide)]
      exact ⟨order, left, rfl, O, fun t ht => by simpa using e2 t ht⟩
    · have hd : del_ left (k : Int) ((k : Int) + 1) = some (left.take k ++ left.drop (k + 1)) := by
        rw [del_, if_pos (by omega)]
        simp [show ((k : Int) + 1).toNat = k + 1 by omega]
      rw [e1, bS, if_neg (by omega), at_nat, List.getElem?_eq_getElem hk, bS, app_ok (by simp; omega), bS, i64_ok (by omega), bS, hd, bS]
      have hle : (left.take k ++ left.drop (k + 1)).length < m := by simp; omega
      exact ih _ _ hle (O.step hF hk (by simpa using e2))
structure At1 (M : List (Nm × Int)) (o : List Nm) : Prop where
  len : M.length = o.length
  pos : ∀ (i : Nat) (n : Nm), o[i]? = some n → mget M n = some ((i : Int) + 1)
  non : ∀ n, n ∉ o → mget M n = none
theorem mput_new {κ β : Type} [DecidableEq κ] : ∀ (m : List (κ × β)) (k : κ) (x : β), mget m k = none → (mput m k x).length = m.length + 1
  | [], k, x, h => rfl
  | (a, b) :: m, k, x, h => by
    rw [mget] at h
    split at h
    · cases h
    · rename_i c
      rw [mput, if_neg c, List.length_cons, mput_new m k x h, List.length_cons]
theorem At1.snoc {M : List (Nm × Int)} {o : List Nm} {n : Nm} (h : At1 M o) (hn : n ∉ o) : At1 (mput M n ((o.length : Int) + 1)) (o ++ [n]) := by
  refine ⟨?_, fun i k hi => ?_, fun k hk => ?_⟩
  · rw [mput_new _ _ _ (h.non n hn), h.len, List.length_append, List.length_singleton]
  · rw [mget_mput]
    rcases Nat.lt_or_ge i o.length with c | c
    · rw [List.getElem?_append_left c] at hi
      rw [if_neg (fun e : n = k => hn (by rw [e]; exact List.mem_of_getElem? hi))]
      exact h.pos i k hi
    · rw [List.getElem?_append_right c] at hi
      have hi0 : i - o.length = 0 := by
        have := (List.getElem?_eq_some_iff.1 hi).1
        simp at this; omega
      rw [hi0] at hi
      have e : n = k := by simpa using hi
      rw [if_pos e]
      congr 1
      omega
  · rw [mget_mput, if_neg (fun e : n = k => hk (by simp [e]))]
    exact h.non k fun hm => hk (by simp [hm])
theorem At1.zero {M : List (Nm × Int)} {o : List Nm} (h : At1 M o) (n : Nm) : ((mget M n).getD 0 = 0 ∧ n ∉ o) ∨ ∃ i : Nat, o[i]? = some n ∧ (mget M n).getD 0 = (i : Int) + 1 := by
  by_cases c : n ∈ o
  · obtain ⟨i, hi, e⟩ := List.getElem_of_mem c
    have := h.pos i n (by rw [List.getElem?_eq_getElem hi, e])
    exact .inr ⟨i, by rw [List.getElem?_eq_getElem hi, e], by rw [this]; rfl⟩
  · exact .inl ⟨by rw [h.non n c]; rfl, c⟩
theorem nodup_inj {o : List Nm} (h : o.Nodup) {i j : Nat} (h1 : i < o.length) (h2 : j < o.length) (e : o[i] = o[j]) : i = j :=
  (List.getElem?_inj h1 h).1 (by rw [List.getElem?_eq_getElem h1, List.getElem?_eq_getElem h2, e])
theorem law_order_ok (l : List TDef) : law_order 60001 l = some true := by
  obtain ⟨E, f, h1, h2⟩ := edges_t l
  rw [law_order, l15_alive_ok, bS, if_pos rfl, gr_order, h1, bS]
  rcases h2 with ⟨z, rfl⟩ | ⟨z, hl, hnd, hE, hF⟩
  · simp only []
    rw [if_pos z, gr_order_j1, bS, bS]
    simp only []
    rw [if_pos z, law_order_j1, if_pos rfl, if_pos (by simp [andL])]
    rfl
  · have hT : (tks l).length ≤ 30 := by
      have : (tks l).length ≤ l.length := by rw [tks, List.length_map]; exact List.length_filter_le _ _
      omega
    simp only []
    rw [if_neg (by simpa using z), names_t l hl, bS]
    obtain ⟨o, r, e1, O, hr⟩ := order_l1 (tks l) E f hT hE hF 60001 (tks l) [] (by omega) ⟨by simpa using tks_nodup hnd, by simp, fun n hn => .inr hn, fun x hx i hi => by simp at hi⟩
    rw [e1, bS, bS]
    simp only []
    rw [if_neg (by simpa using z), decide_eq_false (by simpa using z), law_order_j1, if_neg (by decide)]
    have olen := O.len
    obtain ⟨nd1, nd2, nd3⟩ := List.nodup_append.1 O.nd
    have L5 : ∀ (M : List (Nm × Int)), At1 M o → ∀ (m i : Nat), i ≤ E.length → E.length < m + i → law_order_l5 (E, f) M m i = some true := by
      intro M A m
      induction m with
      | zero => intro i h1 h2; omega
      | succ m ih =>
        intro i h1 h2
        rw [law_order_l5]
        by_cases c : i < E.length
        · simp only []
          rw [if_pos (by omega), at_nat, List.getElem?_eq_getElem c, bS]
          have J : law_order_j3 (i : Int) (law_order_l5 (E, f) M m) false = some true := by
            rw [law_order_j3, if_neg (by decide), i64_ok (by omega), bS]
            exact ih (i + 1) c (by omega)
          rcases A.zero E[i].To with ⟨a1, -⟩ | ⟨k, a1, a2⟩
          · rw [a1, if_neg (by decide)]; exact J
          · obtain ⟨j, b1, b2⟩ := O.bh _ (List.getElem_mem c) k a1
            have b3 := A.pos j _ b2
            rw [a2, if_pos (by omega), b3]
            simp only [Option.getD_some]
            rw [if_neg (by omega), decide_eq_false (by omega)]
            exact J
        · simp only []
          rw [if_neg (by omega)]
    have L4 : ∀ (M : List (Nm × Int)), At1 M o → ∀ (u : Int) (n : Nm) (K : Int → Option Bool), hears E r n = true → -1 ≤ u → u ≤ 1000 → ∀ (m i : Nat) (b : Bool), i ≤ E.length → E.length < m + i → (b = true ∨ ∃ x ∈ E.drop i, x.To = n ∧ x.From ∈ r) → law_order_l4 (E, f) M u n K m b i = Option.bind (i64 (u + 1)) K := by
      intro M A u n K hh hu hu2 m
      induction m with
      | zero => intro i b h1 h2; omega
      | succ m ih =>
        intro i b h1 h2 hb
        rw [law_order_l4]
        by_cases c : i < E.length
        · simp only []
          rw [if_pos (by omega), at_nat, List.getElem?_eq_getElem c, bS]
          rw [List.drop_eq_getElem_cons c] at hb
          by_cases q : b = true
          · rw [if_pos q, i64_ok (by omega), bS]
            exact ih (i + 1) true c (by omega) (.inl rfl)
          · rw [if_neg q]
            have hb' : ∃ x ∈ E[i] :: E.drop (i + 1), x.To = n ∧ x.From ∈ r := by
              rcases hb with hb | hb
              · exact absurd hb q
              · exact hb
            by_cases t : E[i].To = n
            · rw [if_pos t, i64_ok (by omega), bS]
              refine ih (i + 1) _ c (by omega) ?_
              by_cases w : E[i].From ∈ r
              · left
                rcases A.zero E[i].From with ⟨a1, -⟩ | ⟨k, a1, -⟩
                · rw [a1]; rfl
                · exact absurd rfl (nd3 _ (List.mem_of_getElem? a1) _ w)
              · right
                obtain ⟨x, hx, e1, e2⟩ := hb'
                rcases List.mem_cons.1 hx with rfl | hx
                · exact absurd e2 w
                · exact ⟨x, hx, e1, e2⟩
            · rw [if_neg t, i64_ok (by omega), bS]
              refine ih (i + 1) false c (by omega) (.inr ?_)
              obtain ⟨x, hx, e1, e2⟩ := hb'
              rcases List.mem_cons.1 hx with rfl | hx
              · exact absurd e1 t
              · exact ⟨x, hx, e1, e2⟩
        · simp only []
          rw [List.drop_eq_nil_of_le (by omega)] at hb
          have : b = true := by simpa using hb
          rw [if_neg (by omega), if_pos this]
    have L3 : ∀ (M : List (Nm × Int)), At1 M o → ∀ (m i : Nat), i ≤ r.length → r.length < m + i → law_order_l3 (o, r, f) (E, f) M m i = some true := by
      intro M A m
      induction m with
      | zero => intro i h1 h2; omega
      | succ m ih =>
        intro i h1 h2
        rw [law_order_l3]
        by_cases c : i < r.length
        · simp only []
          rw [if_pos (by omega), at_nat, List.getElem?_eq_getElem c, bS]
          have hm := hr _ (List.getElem_mem c)
          rcases A.zero r[i] with ⟨a1, -⟩ | ⟨k, a1, -⟩
          · rw [a1, if_neg (by decide), show ((0 : Int)) = ((0 : Nat) : Int) from rfl, L4 M A (i : Int) r[i] _ hm (by omega) (by omega) (E.length + 1) 0 false (by omega) (by omega) (.inr ?_), i64_ok (by omega), bS]
            · exact ih (i + 1) c (by omega)
            · rw [hears, List.any_eq_true] at hm
              obtain ⟨x, hx, e⟩ := hm
              simp only [Bool.and_eq_true, decide_eq_true_eq, List.contains_eq_mem] at e
              exact ⟨x, by simpa using hx, e.1, e.2⟩
          · exact absurd rfl (nd3 _ (List.mem_of_getElem? a1) _ (List.getElem_mem c))
        · simp only []
          rw [if_neg (by omega)]
          exact L5 M A (E.length + 1) 0 (by omega) (by omega)
    have L2 : ∀ (M : List (Nm × Int)), At1 M o → ∀ (m i : Nat) (t : Int), i ≤ l.length → l.length < m + i → 0 ≤ t → t + (tks (l.drop i)).length = (tks l).length → law_order_l2 l (o, r, f) (E, f) M m t i = some true := by
      intro M A m
      induction m with
      | zero => intro i t h1 h2; omega
      | succ m ih =>
        intro i t h1 h2 h3 h4
        rw [law_order_l2]
        by_cases c : i < l.length
        · rw [if_pos (by omega), at_nat, List.getElem?_eq_getElem c, bS]
          rw [List.drop_eq_getElem_cons c] at h4
          by_cases k : l[i].Kind = 4
          · rw [tks, List.filter_cons_of_pos (by simpa using k), List.map_cons, List.length_cons] at h4
            rw [if_pos k, i64_ok (by omega), bS, i64_ok (by omega), bS]
            refine ih (i + 1) (t + 1) c (by omega) (by omega) ?_
            rw [tks]; omega
          · rw [tks, List.filter_cons_of_neg (by simpa using k)] at h4
            rw [if_neg k, i64_ok (by omega), bS]
            refine ih (i + 1) t c (by omega) h3 ?_
            rw [tks]; omega
        · rw [List.drop_eq_nil_of_le (by omega)] at h4
          have h5 : t = (tks l).length := by simpa [tks] using h4
          rw [if_neg (by omega)]
          simp only []
          rw [if_neg (by rw [A.len]; simp), i64_ok (by omega), bS, decide_eq_false (by omega), law_order_j2, if_neg (by decide)]
          exact L3 M A (r.length + 1) 0 (by omega) (by omega)
    have L1 : ∀ (m i : Nat) (M : List (Nm × Int)), i ≤ o.length → o.length < m + i → At1 M (o.take i) → law_order_l1 l (o, r, f) (E, f) m i M = some true := by
      intro m
      induction m with
      | zero => intro i M h1 h2; omega
      | succ m ih =>
        intro i M h1 h2 A
        rw [law_order_l1]
        by_cases c : i < o.length
        · simp only []
          rw [if_pos (by omega), at_nat, List.getElem?_eq_getElem c, bS, i64_ok (by omega), bS, bS]
          refine ih (i + 1) _ c (by omega) ?_
          have hni : o[i] ∉ o.take i := by
            intro hm
            obtain ⟨j, hj, e⟩ := List.getElem_of_mem hm
            rw [List.getElem_take] at e
            have hj' : j < i := by simp at hj; omega
            have := nodup_inj nd1 (by omega) c e
            omega
          have := A.snoc hni
          rw [List.take_succ_eq_append_getElem c]
          rwa [show ((o.take i).length : Int) = (i : Int) by simp; omega] at this
        · simp only []
          rw [if_neg (by omega)]
          rw [List.take_of_length_le (by omega)] at A
          exact L2 M A (l.length + 1) 0 0 (by omega) (by omega) (by omega) (by simp)
    exact L1 (o.length + 1) 0 [] (by omega) (by omega) ⟨rfl, fun i n h => by simp at h, fun n _ => rfl⟩
end Go.Y
