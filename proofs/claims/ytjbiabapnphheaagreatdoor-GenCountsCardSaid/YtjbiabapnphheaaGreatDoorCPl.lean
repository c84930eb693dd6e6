/- Texts of GenCounts Pl. -/
import Derived.Test.YtjbiabapnphheaaGreatDoorCMd
import Derived.Test.YtjbiabapnphheaaGreatDoorCXu
import Derived.KernelRfl
set_option linter.unusedSimpArgs false
set_option linter.unusedVariables false
set_option linter.unusedSectionVars false
namespace Go.Y
open Go.Wk Go.Xt
theorem i64_ok {n : Int} (h : -9223372036854775808 ≤ n ∧ n ≤ 9223372036854775807) : i64 n = some n := if_pos h
theorem bS {α β : Type} {x : α} {f : α → Option β} : Option.bind (some x) f = f x := rfl
theorem at_nat {α : Type} {l : List α} {i : Nat} : at_ l (i : Int) = l[i]? := by simp [at_]
theorem at_0 {α : Type} {l : List α} (h : 0 < l.length) : at_ l 0 = some l[0] := by simp [at_, h]
theorem lx_letter_t (c : UInt8) : ∃ b, lx_letter c = some b := by
  unfold lx_letter
  split
  · split <;> exact ⟨_, rfl⟩
  · exact ⟨_, rfl⟩
theorem lx_digit_t (c : UInt8) : ∃ b, lx_digit c = some b := by
  unfold lx_digit
  split <;> exact ⟨_, rfl⟩
theorem lx_n1_t (c : UInt8) : ∃ b, lx_n1 c = some b := by
  obtain ⟨a, ha⟩ := lx_letter_t c
  obtain ⟨b, hb⟩ := lx_digit_t c
  unfold lx_n1
  rw [ha, bS, hb, bS]
  split <;> exact ⟨_, rfl⟩
theorem lx_while_t (l : List UInt8) (p : UInt8 → Option Bool) (hp : ∀ c, ∃ b, p c = some b) (hl : l.length ≤ 65536) : ∀ (n i : Nat), i ≤ l.length → l.length < n + i → ∃ r, lx_while_l1 l p n (i : Int) = some r
  | 0, i, h1, h2 => by omega
  | n + 1, i, h1, h2 => by
    rw [lx_while_l1]
    by_cases c : i < l.length
    · obtain ⟨b, hb⟩ := hp l[i]
      rw [if_pos (by omega), at_nat, List.getElem?_eq_getElem c, bS, hb, bS]
      cases b with
      | true => rw [lx_while_j1, if_pos rfl, i64_ok (by omega), bS]; exact lx_while_t l p hp hl n (i + 1) c (by omega)
      | false => exact ⟨_, rfl⟩
    · rw [if_neg (by omega)]
      exact ⟨_, rfl⟩
theorem lex_named_t (fu : Nat) (hf : 20 ≤ fu) (s : List UInt8) : ∃ b, lex_named fu s = some b := by
  have hj : ∀ b, (b = true ∨ s.length ≤ 12) → ∃ r, lex_named_j1 fu s b = some r := by
    intro b hb
    cases b with
    | true => exact ⟨_, rfl⟩
    | false =>
      have hs : s.length ≤ 12 := by simpa using hb
      obtain ⟨r, hr⟩ := lx_while_t s lx_n1 lx_n1_t (by omega) fu 0 (by omega) (by omega)
      have hr2 : lx_while fu s lx_n1 = some r := hr
      exact ⟨_, by rw [lex_named_j1, if_neg (by decide), hr2, bS]⟩
  rw [lex_named]
  by_cases h1 : (s.length : Int) < 1
  · rw [if_pos h1]; exact hj _ (.inl rfl)
  · rw [if_neg h1]
    by_cases h2 : (12 : Int) < s.length
    · rw [if_pos h2]; exact hj _ (.inl rfl)
    · have h0 : 0 < s.length := by omega
      obtain ⟨b, hb⟩ := lx_letter_t s[0]
      rw [if_neg h2, at_0 h0, bS, hb, bS]
      cases b with
      | false => rw [if_neg (by decide)]; exact hj _ (.inl rfl)
      | true =>
        rw [if_pos rfl, cat, if_pos (by simp; omega), bS, cat, if_pos (by simp; omega), bS, scont, if_pos (by decide +kernel), bS]
        exact hj _ (.inr (by omega))
def kidN (k : Int) : Int := if k ≤ 3 ∨ k = 20 then 0 else if k ≤ 5 ∨ k = 21 ∨ k = 24 then 1 else if k ≤ 18 ∨ k = 23 then 2 else -1
theorem syn_kids_t (k : Int) : syn_kids k = some (kidN k) := by
  unfold syn_kids kidN
  by_cases h1 : k ≤ 3
  · rw [if_pos h1, if_pos (.inl h1)]; rfl
  · rw [if_neg h1]
    by_cases h2 : k = 20
    · rw [decide_eq_true h2, if_pos (.inr h2)]; rfl
    · rw [decide_eq_false h2, syn_kids_j1, if_neg (by decide), if_neg (show ¬ (k ≤ 3 ∨ k = 20) by omega)]
      by_cases h3 : k ≤ 5
      · rw [if_pos h3, if_pos (.inl h3)]; rfl
      · rw [if_neg h3]
        by_cases h4 : k = 21
        · rw [if_pos h4, if_pos (.inr (.inl h4))]; rfl
        · rw [if_neg h4]
          by_cases h5 : k = 24
          · rw [decide_eq_true h5, if_pos (.inr (.inr h5))]; rfl
          · rw [decide_eq_false h5, syn_kids_j2, if_neg (by decide), if_neg (show ¬ (k ≤ 5 ∨ k = 21 ∨ k = 24) by omega)]
            by_cases h6 : k ≤ 18
            · rw [if_pos h6, if_pos (.inl h6)]; rfl
            · rw [if_neg h6]
              by_cases h7 : k = 23
              · rw [decide_eq_true h7, if_pos (.inr h7)]; rfl
              · rw [decide_eq_false h7, if_neg (show ¬ (k ≤ 18 ∨ k = 23) by omega)]; rfl
theorem syn_node_t (node d : Int) (h0 : 0 ≤ node) (h1 : node ≤ 4294967296) : ∃ e, syn_node node d = some (e, node + 1) ∧ (e = 0 → node + 1 ≤ 2000 ∧ d ≤ 40) := by
  unfold syn_node
  rw [i64_ok (by omega), bS]
  by_cases c : 2000 < node + 1
  · rw [if_pos c]; exact ⟨4, rfl, fun h => absurd h (by decide)⟩
  · rw [if_neg c]
    by_cases e : 40 < d
    · rw [decide_eq_true e]; exact ⟨4, rfl, fun h => absurd h (by decide)⟩
    · rw [decide_eq_false e]; exact ⟨0, rfl, fun _ => ⟨by omega, by omega⟩⟩
structure KidsOk (x : TExpr) : Prop where
  eq : 0 ≤ kidN x.Kind → (x.Kids.length : Int) = kidN x.Kind
  le : x.Kids.length ≤ 6
def OkE : Nat → TExpr → Prop
  | 0, _ => False
  | k + 1, x => 1 ≤ x.Kind ∧ x.Kind ≤ 24 ∧ KidsOk x ∧ ∀ y ∈ x.Kids, OkE k y
def nE : Nat → TExpr → Nat
  | 0, _ => 0
  | k + 1, x => 1 + (x.Kids.map (nE k)).sum
theorem kidN_le (k : Int) : kidN k ≤ 2 := by
  unfold kidN
  split
  · decide
  · split
    · decide
    · split <;> decide
theorem syn_expr_t : ∀ (n : Nat) (x : TExpr) (d node : Int), 62 ≤ n + d → 0 ≤ d → d ≤ 41 → 0 ≤ node → node ≤ 2000 →
    ∃ e k, (SynExpr_run n).syn_expr node x d = some (e, k) ∧ node ≤ k ∧ (e = 0 → k ≤ 2000 ∧ OkE (41 - d).toNat x ∧ k = node + (nE (41 - d).toNat x : Nat)) := by
  intro n
  induction n with
  | zero => intro x d node h0 h1 h2; omega
  | succ n ih =>
    intro x d node h0 h1 h2 h3 h4
    show ∃ e k, syn_expr n (SynExpr_run n) node x d = some (e, k) ∧ _
    obtain ⟨b, hb⟩ := lex_named_t n (by omega) x.Name
    obtain ⟨e, hn, he⟩ := syn_node_t node d h3 (by omega)
    rw [syn_expr, hn, bS]
    by_cases c : e = 0
    · subst c
      obtain ⟨hk, hd⟩ := he rfl
      rw [if_neg (by simp)]
      have hD : (41 - d).toNat = (40 - d).toNat + 1 := by omega
      rw [hD]
      generalize hP : (fun o : Option (Int × Int) => ∃ e k, o = some (e, k) ∧ node ≤ k ∧ (e = 0 → k ≤ 2000 ∧ OkE ((40 - d).toNat + 1) x ∧ k = node + (nE ((40 - d).toNat + 1) x : Nat))) = P
      have bad : ∀ e : Int, e ≠ 0 → P (some (e, node + 1)) := fun e h => by rw [← hP]; exact ⟨e, _, rfl, by omega, fun h' => absurd h' h⟩
      have L : x.Kids.length ≤ 6 → ∀ (m i : Nat) (c : Int), i ≤ x.Kids.length → x.Kids.length < m + i → 0 ≤ c → c ≤ 2000 →
          ∃ e k, syn_expr_l1 (SynExpr_run n) x d m i c = some (e, k) ∧ c ≤ k ∧ (e = 0 → k ≤ 2000 ∧ (∀ y ∈ x.Kids.drop i, OkE (40 - d).toNat y) ∧ k = c + (((x.Kids.drop i).map (nE (40 - d).toNat)).sum : Nat)) := by
        intro hl m
        induction m with
        | zero => intro i c h1 h2; omega
        | succ m ihm =>
          intro i c g1 g2 g3 g4
          rw [syn_expr_l1]
          by_cases q : i < x.Kids.length
          · obtain ⟨e, k, e1, e2, e3⟩ := ih x.Kids[i] (d + 1) c (by omega) (by omega) (by omega) g3 g4
            rw [if_pos (by omega), at_nat, List.getElem?_eq_getElem q, bS, i64_ok (by omega), bS, e1, bS]
            by_cases z : e = 0
            · subst z
              obtain ⟨f1, f2, f3⟩ := e3 rfl
              rw [if_neg (by simp), i64_ok (by omega), bS]
              obtain ⟨e', k', r1, r2, r3⟩ := ihm (i + 1) k q (by omega) (by omega) f1
              refine ⟨e', k', r1, by omega, fun hz => ?_⟩
              obtain ⟨s1, s2, s3⟩ := r3 hz
              have hd' : (41 - (d + 1)).toNat = (40 - d).toNat := by omega
              rw [hd'] at f2 f3
              refine ⟨s1, fun y hy => ?_, ?_⟩
              · rw [List.drop_eq_getElem_cons q] at hy
                rcases List.mem_cons.1 hy with rfl | hy
                · exact f2
                · exact s2 y hy
              · rw [List.drop_eq_getElem_cons q, List.map_cons, List.sum_cons]
                omega
            · rw [if_pos z]
              exact ⟨e, k, rfl, e2, fun h => absurd h z⟩
          · rw [if_neg (by omega), List.drop_eq_nil_of_le (by omega)]
            exact ⟨0, c, rfl, by omega, fun _ => ⟨g4, by simp, by simp⟩⟩
      by_cases kd : 1 ≤ x.Kind ∧ x.Kind ≤ 24
      · have J6 : ∀ b, (b = false → KidsOk x) → P (syn_expr_j6 (SynExpr_run n) x d (0, node + 1) b) := by
          intro b h
          cases b with
          | true => exact bad 5 (by decide)
          | false =>
            have hk' := h rfl
            rw [syn_expr_j6, if_neg (by decide), ← hP]
            obtain ⟨e, k, r1, r2, r3⟩ := L hk'.le (x.Kids.length + 1) 0 (node + 1) (by omega) (by omega) (by omega) (by omega)
            refine ⟨e, k, r1, by omega, fun hz => ?_⟩
            obtain ⟨s1, s2, s3⟩ := r3 hz
            rw [List.drop_zero] at s2 s3
            exact ⟨s1, ⟨kd.1, kd.2, hk', s2⟩, by rw [nE]; omega⟩
        have kl := kidN_le x.Kind
        have J5 : ∀ b, (b = false → 0 ≤ kidN x.Kind → (x.Kids.length : Int) = kidN x.Kind) → P (syn_expr_j5 (SynExpr_run n) x d (0, node + 1) (kidN x.Kind) b) := by
          intro b h
          cases b with
          | true => rw [syn_expr_j5, if_pos rfl]; exact J6 _ (fun h => absurd h (by decide))
          | false =>
            rw [syn_expr_j5, if_neg (by decide)]
            by_cases q : kidN x.Kind < 0
            · rw [if_pos q]
              exact J6 _ fun hd => ⟨h rfl, by have := of_decide_eq_false hd; omega⟩
            · rw [if_neg q]
              exact J6 _ fun _ => ⟨h rfl, by have := h rfl (by omega); omega⟩
        have J4 : ∀ b, P (syn_expr_j4 (SynExpr_run n) x d (0, node + 1) (kidN x.Kind) b) := by
          intro b
          cases b with
          | true => exact bad 7 (by decide)
          | false =>
            rw [syn_expr_j4, if_neg (by decide)]
            by_cases q : 0 ≤ kidN x.Kind
            · rw [if_pos q]
              exact J5 _ fun hd _ => by have := of_decide_eq_false hd; omega
            · rw [if_neg q]
              exact J5 _ fun _ h => absurd h q
        have J3 : ∀ b, P (syn_expr_j3 n (SynExpr_run n) x d (0, node + 1) (kidN x.Kind) b) := by
          intro b'
          cases b' with
          | true => exact bad 3 (by decide)
          | false =>
            rw [syn_expr_j3, if_neg (by decide), hb]
            simp only [bS]
            split
            · exact J4 _
            · split
              · exact J4 _
              · split <;> exact J4 _
        have J2 : ∀ b, P (syn_expr_j2 n (SynExpr_run n) x d (0, node + 1) (kidN x.Kind) b) := by
          intro b'
          unfold syn_expr_j2
          split
          · exact J3 _
          · split
            · split <;> exact J3 _
            · exact J3 _
        have J1 : ∀ b, P (syn_expr_j1 n (SynExpr_run n) x d (0, node + 1) b) := by
          intro b'
          cases b' with
          | true => exact bad 1 (by decide)
          | false =>
            rw [syn_expr_j1, if_neg (by decide), syn_kids_t, bS]
            split
            · split <;> exact J2 _
            · exact J2 _
        have G : P (if x.Kind < 1 then syn_expr_j1 n (SynExpr_run n) x d (0, node + 1) true else syn_expr_j1 n (SynExpr_run n) x d (0, node + 1) (decide ((24 : Int) < x.Kind))) := by
          split <;> exact J1 _
        rw [← hP] at G
        exact G
      · have G : P (if x.Kind < 1 then syn_expr_j1 n (SynExpr_run n) x d (0, node + 1) true else syn_expr_j1 n (SynExpr_run n) x d (0, node + 1) (decide ((24 : Int) < x.Kind))) := by
          split
          · exact bad 1 (by decide)
          · rw [decide_eq_true (show 24 < x.Kind by omega)]
            exact bad 1 (by decide)
        rw [← hP] at G
        exact G
    · rw [if_pos c]
      exact ⟨e, _, rfl, by omega, fun h => absurd h c⟩
def OkS : Nat → TStat → Prop
  | 0, _ => False
  | k + 1, s => 1 ≤ s.Kind ∧ s.Kind ≤ 9 ∧ (s.Kind ≠ 6 → OkE k s.X) ∧ ((s.Kind = 3 ∨ s.Kind = 4) → s.Body.length ≤ 50 ∧ ∀ y ∈ s.Body, OkS k y) ∧ (s.Kind = 3 → s.Else.length ≤ 50 ∧ ∀ y ∈ s.Else, OkS k y)
def nS : Nat → TStat → Nat
  | 0, _ => 0
  | k + 1, s => 1 + (if s.Kind = 6 then 0 else nE k s.X) + (if s.Kind = 3 ∨ s.Kind = 4 then (s.Body.map (nS k)).sum else 0) + (if s.Kind = 3 then (s.Else.map (nS k)).sum else 0)
theorem syn_stat_t : ∀ (n : Nat), (∀ (l : List TStat) (d node : Int), 2 * (42 - d) + 65 ≤ n → 0 ≤ d → d ≤ 41 → 0 ≤ node → node ≤ 2000 →
      ∃ e k, (SynStat_run n).syn_stats node l d = some (e, k) ∧ node ≤ k ∧ (e = 0 → k ≤ 2000 ∧ (l.length ≤ 50 ∧ ∀ y ∈ l, OkS (41 - d).toNat y) ∧ k = node + ((l.map (nS (41 - d).toNat)).sum : Nat))) ∧
    (∀ (x : TStat) (d node : Int), 2 * (42 - d) + 64 ≤ n → 0 ≤ d → d ≤ 41 → 0 ≤ node → node ≤ 2000 →
      ∃ e k, (SynStat_run n).syn_stat node x d = some (e, k) ∧ node ≤ k ∧ (e = 0 → k ≤ 2000 ∧ OkS (41 - d).toNat x ∧ k = node + (nS (41 - d).toNat x : Nat))) := by
  intro n
  induction n with
  | zero => exact ⟨fun l d node h0 h1 h2 => by omega, fun l d node h0 h1 h2 => by omega⟩
  | succ n ih =>
    obtain ⟨ihl, ihs⟩ := ih
    refine ⟨fun l d node h0 h1 h2 h3 h4 => ?_, fun x d node h0 h1 h2 h3 h4 => ?_⟩
    · show ∃ e k, syn_stats (SynStat_run n) node l d = some (e, k) ∧ _
      rw [syn_stats]
      by_cases hl : (50 : Int) < l.length
      · rw [if_pos hl]; exact ⟨5, node, rfl, by omega, fun h => absurd h (by decide)⟩
      · rw [if_neg hl]
        have L : ∀ (m i : Nat) (c : Int), i ≤ l.length → l.length < m + i → 0 ≤ c → c ≤ 2000 →
            ∃ e k, syn_stats_l1 (SynStat_run n) l d m i c = some (e, k) ∧ c ≤ k ∧ (e = 0 → k ≤ 2000 ∧ (∀ y ∈ l.drop i, OkS (41 - d).toNat y) ∧ k = c + (((l.drop i).map (nS (41 - d).toNat)).sum : Nat)) := by
          intro m
          induction m with
          | zero => intro i c h1 h2; omega
          | succ m ihm =>
            intro i c g1 g2 g3 g4
            rw [syn_stats_l1]
            by_cases q : i < l.length
            · obtain ⟨e, k, e1, e2, e3⟩ := ihs l[i] d c (by omega) h1 h2 g3 g4
              rw [if_pos (by omega), at_nat, List.getElem?_eq_getElem q, bS, e1, bS]
              by_cases z : e = 0
              · subst z
                obtain ⟨f1, f2, f3⟩ := e3 rfl
                rw [if_neg (by simp), i64_ok (by omega), bS]
                obtain ⟨e', k', r1, r2, r3⟩ := ihm (i + 1) k q (by omega) (by omega) f1
                refine ⟨e', k', r1, by omega, fun hz => ?_⟩
                obtain ⟨s1, s2, s3⟩ := r3 hz
                refine ⟨s1, fun y hy => ?_, ?_⟩
                · rw [List.drop_eq_getElem_cons q] at hy
                  rcases List.mem_cons.1 hy with rfl | hy
                  · exact f2
                  · exact s2 y hy
                · rw [List.drop_eq_getElem_cons q, List.map_cons, List.sum_cons]
                  omega
              · rw [if_pos z]
                exact ⟨e, k, rfl, e2, fun h => absurd h z⟩
            · rw [if_neg (by omega), List.drop_eq_nil_of_le (by omega)]
              exact ⟨0, c, rfl, by omega, fun _ => ⟨g4, by simp, by simp⟩⟩
        obtain ⟨e, k, r1, r2, r3⟩ := L (l.length + 1) 0 node (by omega) (by omega) h3 h4
        refine ⟨e, k, r1, r2, fun hz => ?_⟩
        obtain ⟨s1, s2, s3⟩ := r3 hz
        rw [List.drop_zero] at s2 s3
        exact ⟨s1, ⟨by omega, s2⟩, s3⟩
    · show ∃ e k, syn_stat n (SynStat_run n) node x d = some (e, k) ∧ _
      obtain ⟨b, hb⟩ := lex_named_t n (by omega) x.Name
      obtain ⟨e, hn, he⟩ := syn_node_t node d h3 (by omega)
      rw [syn_stat, hn, bS]
      by_cases c : e = 0
      · subst c
        obtain ⟨hk, hd⟩ := he rfl
        rw [if_neg (by simp)]
        have hD : (41 - d).toNat = (40 - d).toNat + 1 := by omega
        have hD' : (41 - (d + 1)).toNat = (40 - d).toNat := by omega
        rw [hD]
        generalize hP : (fun o : Option (Int × Int) => ∃ e k, o = some (e, k) ∧ node ≤ k ∧ (e = 0 → k ≤ 2000 ∧ OkS ((40 - d).toNat + 1) x ∧ k = node + (nS ((40 - d).toNat + 1) x : Nat))) = P
        have bad : ∀ e c : Int, e ≠ 0 → node ≤ c → P (some (e, c)) := fun e c h hc => by rw [← hP]; exact ⟨e, _, rfl, hc, fun h' => absurd h' h⟩
        have kids := fun (l : List TStat) (c : Int) (hc : node ≤ c) (hc' : c ≤ 2000) => ihl l (d + 1) c (by omega) (by omega) (by omega) (by omega) hc'
        rw [hD'] at kids
        have G : P (if x.Kind < 1 then syn_stat_j1 n (SynStat_run n) x d (0, node + 1) true else syn_stat_j1 n (SynStat_run n) x d (0, node + 1) (decide ((9 : Int) < x.Kind))) := by
          by_cases kd : 1 ≤ x.Kind ∧ x.Kind ≤ 9
          · have J4 : ∀ (c : Int), node ≤ c → c ≤ 2000 → x.Kind ≠ 6 → OkE (40 - d).toNat x.X → ((x.Kind = 3 ∨ x.Kind = 4) → x.Body.length ≤ 50 ∧ ∀ y ∈ x.Body, OkS (40 - d).toNat y) →
                c = node + 1 + (nE (40 - d).toNat x.X : Nat) + ((if x.Kind = 3 ∨ x.Kind = 4 then (x.Body.map (nS (40 - d).toNat)).sum else 0 : Nat) : Int) → P (syn_stat_j4 (SynStat_run n) x d c) := by
              intro c g1 g2 k6 gx gb gc
              rw [syn_stat_j4]
              by_cases k3 : x.Kind = 3
              · obtain ⟨e, k, r1, r2, r3⟩ := kids x.Else c g1 g2
                rw [if_pos k3, i64_ok (by omega), bS, r1, bS]
                rw [← hP]
                refine ⟨e, k, rfl, by omega, fun hz => ?_⟩
                obtain ⟨s1, s2, s3⟩ := r3 hz
                refine ⟨s1, ⟨kd.1, kd.2, fun _ => gx, gb, fun _ => s2⟩, ?_⟩
                rw [nS, if_neg k6, if_pos k3]
                omega
              · rw [if_neg k3, ← hP]
                refine ⟨0, c, rfl, g1, fun _ => ⟨g2, ⟨kd.1, kd.2, fun _ => gx, gb, fun h => absurd h k3⟩, ?_⟩⟩
                rw [nS, if_neg k6, if_neg k3]
                omega
            have J3 : ∀ (c : Int) b, node ≤ c → c ≤ 2000 → x.Kind ≠ 6 → OkE (40 - d).toNat x.X → (b = true ↔ x.Kind = 3 ∨ x.Kind = 4) → c = node + 1 + (nE (40 - d).toNat x.X : Nat) → P (syn_stat_j3 (SynStat_run n) x d (0, c) b) := by
              intro c b g1 g2 k6 gx gb gc
              rw [syn_stat_j3]
              by_cases q : b = true
              · obtain ⟨e, k, r1, r2, r3⟩ := kids x.Body c g1 g2
                rw [if_pos q, i64_ok (by omega), bS, r1, bS]
                by_cases z : e = 0
                · subst z
                  obtain ⟨s1, s2, s3⟩ := r3 rfl
                  rw [if_neg (by simp)]
                  exact J4 k (by omega) s1 k6 gx (fun _ => s2) (by rw [if_pos (gb.1 q)]; omega)
                · rw [if_pos z]
                  exact bad e k z (by omega)
              · rw [if_neg q]
                exact J4 c g1 g2 k6 gx (fun h => absurd (gb.2 h) q) (by rw [if_neg fun h => q (gb.2 h)]; omega)
            have J2 : ∀ b, P (syn_stat_j2 n (SynStat_run n) x d (0, node + 1) b) := by
              intro b
              cases b with
              | true => exact bad 7 _ (by decide) (by omega)
              | false =>
                rw [syn_stat_j2, if_neg (by decide)]
                by_cases k6 : x.Kind = 6
                · rw [if_pos k6, ← hP]
                  refine ⟨0, node + 1, rfl, by omega, fun _ => ⟨by omega, ⟨kd.1, kd.2, fun h => absurd k6 h, fun h => by omega, fun h => by omega⟩, ?_⟩⟩
                  rw [nS, if_pos k6, if_neg (by omega), if_neg (by omega)]
                  omega
                · obtain ⟨e, k, r1, r2, r3⟩ := syn_expr_t n x.X (d + 1) (node + 1) (by omega) (by omega) (by omega) (by omega) (by omega)
                  rw [hD'] at r3
                  rw [if_neg k6, i64_ok (by omega), bS, r1, bS]
                  by_cases z : e = 0
                  · subst z
                    obtain ⟨s1, s2, s3⟩ := r3 rfl
                    rw [if_neg (by simp)]
                    split
                    · rename_i h3
                      exact J3 k true (by omega) s1 k6 s2 (by simp [h3]) (by omega)
                    · rename_i h3
                      exact J3 k _ (by omega) s1 k6 s2 (by simp [h3]) (by omega)
                  · rw [if_pos z]
                    exact bad e k z (by omega)
            have J1 : ∀ b, P (syn_stat_j1 n (SynStat_run n) x d (0, node + 1) b) := by
              intro b'
              cases b' with
              | true => exact bad 1 _ (by decide) (by omega)
              | false =>
                rw [syn_stat_j1, if_neg (by decide), hb]
                simp only [bS]
                split
                · exact J2 _
                · split
                  · exact J2 _
                  · split <;> exact J2 _
            split <;> exact J1 _
          · split
            · exact bad 1 _ (by decide) (by omega)
            · rw [decide_eq_true (show 9 < x.Kind by omega)]
              exact bad 1 _ (by decide) (by omega)
        rw [← hP] at G
        exact G
      · rw [if_pos c]
        exact ⟨e, _, rfl, by omega, fun h => absurd h c⟩
def OkT (t : TType) : Prop := 1 ≤ t.Kind ∧ t.Kind ≤ 3
theorem syn_typ_t (fu : Nat) (hf : 20 ≤ fu) (t : TType) : ∃ e, syn_typ fu t = some e ∧ (e = 0 → OkT t) := by
  obtain ⟨b, hb⟩ := lex_named_t fu hf t.Gen
  rw [syn_typ]
  by_cases c : 1 ≤ t.Kind ∧ t.Kind ≤ 3
  · rw [if_neg (by omega), decide_eq_false (by omega), syn_typ_j1, if_neg (by decide), hb]
    simp only [bS]
    have : ∀ b, ∃ e, syn_typ_j2 b = some e := fun b => by cases b <;> exact ⟨_, rfl⟩
    split
    · obtain ⟨e, he⟩ := this (!b); exact ⟨e, he, fun _ => c⟩
    · obtain ⟨e, he⟩ := this false; exact ⟨e, he, fun _ => c⟩
  · split
    · exact ⟨1, rfl, fun h => absurd h (by decide)⟩
    · rw [decide_eq_true (show 3 < t.Kind by omega)]
      exact ⟨1, rfl, fun h => absurd h (by decide)⟩
structure OkD (x : TDef) : Prop where
  k1 : 1 ≤ x.Kind
  k4 : x.Kind ≤ 4
  ps : x.Kind = 2 ∨ x.Kind = 3 → x.Params.length ≤ 6 ∧ ∀ p ∈ x.Params, OkT p.Typ
  tk : x.Kind = 3 → OkT x.Takes
  ty : x.Kind ≠ 4 → OkT x.Typ
  bl : x.Kind ≠ 1 → x.Body.length ≤ 50
  bo : x.Kind ≠ 1 → ∀ y ∈ x.Body, OkS 39 y
def nD (x : TDef) : Nat := 1 + if x.Kind ≠ 1 then (x.Body.map (nS 39)).sum else 0
theorem syn_def_t (fu : Nat) (hf : 200 ≤ fu) (x : TDef) (node : Int) (h3 : 0 ≤ node) (h4 : node ≤ 2000) : ∃ e k, syn_def fu node x = some (e, k) ∧ node ≤ k ∧ (e = 0 → k ≤ 2000 ∧ OkD x ∧ k = node + (nD x : Nat)) := by
  obtain ⟨b, hb⟩ := lex_named_t fu (by omega) x.Name
  obtain ⟨e, hn, he⟩ := syn_node_t node 1 h3 (by omega)
  rw [syn_def, hn, bS]
  by_cases c : e = 0
  · subst c
    obtain ⟨hk, hd⟩ := he rfl
    rw [if_neg (by simp)]
    generalize hP : (fun o : Option (Int × Int) => ∃ e k, o = some (e, k) ∧ node ≤ k ∧ (e = 0 → k ≤ 2000 ∧ OkD x ∧ k = node + (nD x : Nat))) = P
    have bad : ∀ e c : Int, e ≠ 0 → node ≤ c → P (some (e, c)) := fun e c h hc => by rw [← hP]; exact ⟨e, _, rfl, hc, fun h' => absurd h' h⟩
    have G : P (if x.Kind < 1 then syn_def_j1 fu x (0, node + 1) true else syn_def_j1 fu x (0, node + 1) (decide ((4 : Int) < x.Kind))) := by
      by_cases kd : 1 ≤ x.Kind ∧ x.Kind ≤ 4
      · have J5 : (x.Kind = 2 ∨ x.Kind = 3 → x.Params.length ≤ 6 ∧ ∀ p ∈ x.Params, OkT p.Typ) → (x.Kind = 3 → OkT x.Takes) → (x.Kind ≠ 4 → OkT x.Typ) → P (syn_def_j5 fu x (0, node + 1)) := by
          intro g1 g2 g3
          rw [syn_def_j5]
          by_cases k1 : x.Kind = 1
          · rw [if_neg (by simpa using k1)]
            have J6 : ∀ b, P (syn_def_j6 (0, node + 1) b) := by
              intro b
              cases b with
              | true => exact bad 3 _ (by decide) (by omega)
              | false =>
                rw [← hP]
                exact ⟨0, node + 1, rfl, by omega, fun _ => ⟨by omega, ⟨kd.1, kd.2, g1, g2, g3, fun h => absurd k1 h, fun h => absurd k1 h⟩, by rw [nD, if_neg (by simpa using k1)]; omega⟩⟩
            split <;> exact J6 _
          · obtain ⟨e, k, r1, r2, r3⟩ := (syn_stat_t fu).1 x.Body 2 (node + 1) (by omega) (by omega) (by omega) (by omega) (by omega)
            rw [if_pos k1, r1, bS, ← hP]
            refine ⟨e, k, rfl, by omega, fun hz => ?_⟩
            obtain ⟨s1, s2, s3⟩ := r3 hz
            exact ⟨s1, ⟨kd.1, kd.2, g1, g2, g3, fun _ => s2.1, fun _ => s2.2⟩, by rw [nD, if_pos k1]; rw [show (41 - (2 : Int)).toNat = 39 from rfl] at s3; omega⟩
        have J4 : (x.Kind = 2 ∨ x.Kind = 3 → x.Params.length ≤ 6 ∧ ∀ p ∈ x.Params, OkT p.Typ) → (x.Kind = 3 → OkT x.Takes) → P (syn_def_j4 fu x (0, node + 1)) := by
          intro g1 g2
          rw [syn_def_j4]
          by_cases k4 : x.Kind = 4
          · rw [if_neg (by simpa using k4)]
            exact J5 g1 g2 fun h => absurd k4 h
          · obtain ⟨e, h1, h2⟩ := syn_typ_t fu (by omega) x.Typ
            rw [if_pos k4, h1, bS]
            by_cases z : e = 0
            · rw [if_neg (by simpa using z)]; exact J5 g1 g2 fun _ => h2 z
            · rw [if_pos z]; exact bad e _ z (by omega)
        have J3 : (x.Kind = 2 ∨ x.Kind = 3 → x.Params.length ≤ 6 ∧ ∀ p ∈ x.Params, OkT p.Typ) → P (syn_def_j3 fu x (0, node + 1)) := by
          intro g1
          rw [syn_def_j3]
          by_cases k3 : x.Kind = 3
          · obtain ⟨e, h1, h2⟩ := syn_typ_t fu (by omega) x.Takes
            rw [if_pos k3, h1, bS]
            by_cases z : e = 0
            · rw [if_neg (by simpa using z)]; exact J4 g1 fun _ => h2 z
            · rw [if_pos z]; exact bad e _ z (by omega)
          · rw [if_neg k3]
            exact J4 g1 fun h => absurd h k3
        have L : x.Params.length ≤ 6 → ∀ (m i : Nat), i ≤ x.Params.length → x.Params.length < m + i → (∀ p ∈ x.Params.take i, OkT p.Typ) → P (syn_def_l1 fu x (0, node + 1) m i) := by
          intro hl m
          induction m with
          | zero => intro i h1 h2; omega
          | succ m ihm =>
            intro i g1 g2 g3
            rw [syn_def_l1]
            by_cases q : i < x.Params.length
            · obtain ⟨b', hb'⟩ := lex_named_t fu (by omega) x.Params[i].Name
              obtain ⟨e, h1, h2⟩ := syn_typ_t fu (by omega) x.Params[i].Typ
              rw [if_pos (by omega), at_nat, List.getElem?_eq_getElem q, bS, hb', bS]
              cases b' with
              | false => rw [if_neg (by decide)]; exact bad 7 _ (by decide) (by omega)
              | true =>
                rw [if_pos rfl, h1, bS]
                by_cases z : e = 0
                · rw [if_neg (by simpa using z), i64_ok (by omega), bS]
                  refine ihm (i + 1) q (by omega) fun p hp => ?_
                  rw [List.take_succ_eq_append_getElem q] at hp
                  rcases List.mem_append.1 hp with hp | hp
                  · exact g3 p hp
                  · rw [List.mem_singleton.1 hp]; exact h2 z
                · rw [if_pos z]; exact bad e _ z (by omega)
            · rw [if_neg (by omega)]
              rw [List.take_of_length_le (by omega)] at g3
              exact J3 fun _ => ⟨hl, g3⟩
        have J2 : ∀ b, (b = true ↔ x.Kind = 2 ∨ x.Kind = 3) → P (syn_def_j2 fu x (0, node + 1) b) := by
          intro b g
          rw [syn_def_j2]
          by_cases q : b = true
          · rw [if_pos q]
            by_cases hl : (6 : Int) < x.Params.length
            · rw [if_pos hl]; exact bad 5 _ (by decide) (by omega)
            · rw [if_neg hl]
              exact L (by omega) (x.Params.length + 1) 0 (by omega) (by omega) (by simp)
          · rw [if_neg q]
            exact J3 fun h => absurd (g.2 h) q
        have J1 : ∀ b, P (syn_def_j1 fu x (0, node + 1) b) := by
          intro b'
          cases b' with
          | true => exact bad 1 _ (by decide) (by omega)
          | false =>
            rw [syn_def_j1, if_neg (by decide), hb, bS]
            cases b with
            | false => rw [if_neg (by decide)]; exact bad 7 _ (by decide) (by omega)
            | true =>
              rw [if_pos rfl]
              split
              · rename_i h2; exact J2 _ (by simp [h2])
              · rename_i h2; exact J2 _ (by simp [h2])
        split <;> exact J1 _
      · split
        · exact bad 1 _ (by decide) (by omega)
        · rw [decide_eq_true (show 4 < x.Kind by omega)]
          exact bad 1 _ (by decide) (by omega)
    rw [← hP] at G
    exact G
  · rw [if_pos c]
    exact ⟨e, _, rfl, by omega, fun h => absurd h c⟩
structure OkP (l : List TDef) : Prop where
  le : l.length ≤ 30
  ok : ∀ d ∈ l, OkD d
  n : (l.map nD).sum ≤ 2000
theorem syn_wrong_t (fu : Nat) (hf : 200 ≤ fu) (l : List TDef) : ∃ f, syn_wrong fu l = some f ∧ (f.Err = 0 → f.At = 0 ∧ OkP l) := by
  rw [syn_wrong]
  by_cases hl : (30 : Int) < l.length
  · rw [if_pos hl]; exact ⟨_, rfl, fun h => absurd h (by decide : (5 : Int) ≠ 0)⟩
  · rw [if_neg hl]
    have L : ∀ (m i : Nat) (c : Int), i ≤ l.length → l.length < m + i → 0 ≤ c → c ≤ 2000 → (∀ d ∈ l.take i, OkD d) → c = (((l.take i).map nD).sum : Nat) → ∃ f, syn_wrong_l1 fu l m i c = some f ∧ (f.Err = 0 → f.At = 0 ∧ OkP l) := by
      intro m
      induction m with
      | zero => intro i c h1 h2; omega
      | succ m ihm =>
        intro i c g1 g2 g3 g4 g5 g6
        rw [syn_wrong_l1]
        by_cases q : i < l.length
        · obtain ⟨e, k, e1, e2, e3⟩ := syn_def_t fu hf l[i] c g3 g4
          rw [if_pos (by omega), at_nat, List.getElem?_eq_getElem q, bS, e1, bS]
          by_cases z : e = 0
          · subst z
            obtain ⟨f1, f2, f3⟩ := e3 rfl
            rw [if_neg (by simp), i64_ok (by omega), bS]
            refine ihm (i + 1) k q (by omega) (by omega) f1 (fun p hp => ?_) ?_
            · rw [List.take_succ_eq_append_getElem q] at hp
              rcases List.mem_append.1 hp with hp | hp
              · exact g5 p hp
              · rw [List.mem_singleton.1 hp]; exact f2
            · rw [List.take_succ_eq_append_getElem q, List.map_append, List.sum_append, List.map_cons, List.map_nil, List.sum_cons, List.sum_nil]
              omega
          · rw [if_pos z]
            exact ⟨_, rfl, fun h => absurd h z⟩
        · rw [if_neg (by omega)]
          rw [List.take_of_length_le (by omega)] at g5 g6
          exact ⟨_, rfl, fun _ => ⟨rfl, by omega, g5, by omega⟩⟩
    exact L (l.length + 1) 0 0 (by omega) (by omega) (by omega) (by omega) (by simp) (by simp)
end Go.Y
namespace Go.Y
open Go.Wk Go.Xt
abbrev Bl := List (List (List UInt8 × TType))
def bareT (t : TType) : TType := if t.Kind ≠ 3 then ⟨t.Kind, []⟩ else t
theorem sema_plain_e (t : TType) : sema_plain t = some (decide (t.Kind ≠ 3)) := rfl
theorem sema_bare_e (t : TType) : sema_bare t = some (bareT t) := by
  rw [sema_bare, sema_plain_e, bS, bareT]
  by_cases c : t.Kind ≠ 3
  · rw [decide_eq_true c, if_pos rfl, if_pos c]; rfl
  · rw [decide_eq_false c, if_neg (by decide), if_neg c]; rfl
def isK (o : Option TDef) (k : Int) : Bool := match o with | some d => decide (d.Kind = k) | none => false
theorem sema_find_e (p : TSp) (kind : Int) (name : List UInt8) : sema_find p kind name = some (mget p.named name, isK (mget p.named name) kind) := by
  rw [sema_find]
  cases h : mget p.named name with
  | none => rfl
  | some d => rfl
theorem isK_t {o : Option TDef} {k : Int} (h : isK o k = true) : ∃ d, o = some d ∧ d.Kind = k := by
  cases o with
  | none => cases h
  | some d => exact ⟨d, rfl, of_decide_eq_true h⟩
def TyOk (p : TSp) (t : TType) : Prop := t.Kind = 3 → ∃ d, mget p.named t.Gen = some d ∧ d.Kind = 3
theorem TyOk.bare {p : TSp} {t : TType} (h : TyOk p t) : TyOk p (bareT t) := by
  unfold bareT
  split
  · rename_i c; exact fun h3 => absurd h3 c
  · exact h
theorem TyOk.of {p : TSp} {t : TType} (h : t.Kind ≠ 3) : TyOk p t := fun h3 => absurd h3 h
theorem bareT_kind {t : TType} : (bareT t).Kind = t.Kind := by
  unfold bareT
  split <;> rfl
structure HeadOk (p : TSp) (d : TDef) : Prop where
  ty : d.Kind ≠ 4 → d.Typ.Kind ≠ 3
  tk : d.Kind = 3 → d.Takes.Kind ≠ 3
  ps : d.Kind = 2 ∨ d.Kind = 3 → ∀ q ∈ d.Params, TyOk p q.Typ
  pl : d.Kind = 2 ∨ d.Kind = 3 → d.Params.length ≤ 6
def Pg (p : TSp) : Prop := ∀ k d, mget p.named k = some d → HeadOk p d
def ScOk (p : TSp) (B : Bl) : Prop := ∀ m ∈ B, ∀ k t, mget m k = some t → TyOk p t
structure EH (p : TSp) (d : TDef) (B : Bl) : Prop where
  pg : Pg p
  hd : HeadOk p d
  sc : ScOk p B
  bl : B.length ≤ 100
theorem sema_look_t {p : TSp} {B : Bl} (hB : ScOk p B) (hl : B.length ≤ 100) (fu : Nat) (hf : 110 ≤ fu) (d : TDef) (name : List UInt8) : ∃ t b, sema_look fu p d B name = some (t, b) ∧ (b = true → TyOk p t) := by
  have L : ∀ (n j : Nat), j ≤ B.length → j < n → ∃ t b, sema_look_l1 name B n ((j : Int) - 1) = some (t, b) ∧ (b = true → TyOk p t) := by
    intro n
    induction n with
    | zero => intro j h1 h2; omega
    | succ n ih =>
      intro j h1 h2
      rw [sema_look_l1]
      cases j with
      | zero => rw [if_neg (by omega)]; exact ⟨_, _, rfl, by simp⟩
      | succ j =>
        have e : ((j + 1 : Nat) : Int) - 1 = (j : Int) := by omega
        rw [e, if_pos (by omega), at_nat, List.getElem?_eq_getElem (show j < B.length by omega), bS]
        cases h : mget B[j] name with
        | none =>
          rw [if_neg (by simp), i64_ok (by omega), bS]
          exact ih j (by omega) (by omega)
        | some t => exact ⟨t, true, rfl, fun _ => hB _ (List.getElem_mem _) _ _ h⟩
  rw [sema_look, i64_ok (by omega), bS]
  exact L fu B.length (by omega) (by omega)
def Calls (p : TSp) : Nat → TExpr → Prop
  | 0, _ => False
  | k + 1, x => (x.Kind = 19 → ∃ d, mget p.named x.Name = some d ∧ d.Kind = 2) ∧ (x.Kind = 22 → ∃ d, mget p.named x.Name = some d ∧ d.Kind = 3) ∧ (x.Kind = 20 → ∃ d, mget p.named x.Name = some d ∧ d.Kind = 1) ∧ ∀ y ∈ x.Kids, Calls p k y
theorem two {α : Type} {l : List α} (h : l.length = 2) : ∃ a b, l = [a, b] := by
  match l, h with
  | [a, b], _ => exact ⟨a, b, rfl⟩
theorem one {α : Type} {l : List α} (h : l.length = 1) : ∃ a, l = [a] := by
  match l, h with
  | [a], _ => exact ⟨a, rfl⟩
structure SemaT (n : Nat) : Prop where
  typed : ∀ (k : Nat) (p : TSp) (d : TDef) (B : Bl) (x : TExpr) (t : TType), EH p d B → OkE k x → 3 * k + 111 ≤ n → ∃ e, (SemaE_run n).sema_typed p d B x t = some e ∧ (e = 0 → Calls p k x)
  args : ∀ (k : Nat) (p : TSp) (d : TDef) (B : Bl) (x : TExpr) (kind : Int), EH p d B → (∀ y ∈ x.Kids, OkE k y) → x.Kids.length ≤ 6 → (kind = 2 ∨ kind = 3) → 3 * k + 112 ≤ n →
    ∃ od e, (SemaE_run n).sema_args p d B x kind = some (od, e) ∧ (e = 0 → ∃ f, od = some f ∧ mget p.named x.Name = some f ∧ f.Kind = kind ∧ ∀ y ∈ x.Kids, Calls p k y)
  both : ∀ (k : Nat) (p : TSp) (d : TDef) (B : Bl) (x a b : TExpr), EH p d B → x.Kids = [a, b] → OkE k a → OkE k b → 3 * k + 112 ≤ n → ∃ t e, (SemaE_run n).sema_both p d B x = some (t, e) ∧ (e = 0 → Calls p k a ∧ Calls p k b)
  handle : ∀ (k : Nat) (p : TSp) (d : TDef) (B : Bl) (x : TExpr), EH p d B → OkE k x → 3 * k + 112 ≤ n → ∃ od e, (SemaE_run n).sema_handle p d B x = some (od, e) ∧ (e = 0 → (∃ f g, od = some f ∧ mget p.named g = some f ∧ f.Kind = 3) ∧ Calls p k x)
  expr : ∀ (k : Nat) (p : TSp) (d : TDef) (B : Bl) (x : TExpr), EH p d B → OkE k x → 3 * k + 110 ≤ n → ∃ t e, (SemaE_run n).sema_expr p d B x = some (t, e) ∧ (e = 0 → TyOk p t ∧ Calls p k x)
theorem sema_typed_j1_e (r : TType × Int) (b : Bool) : sema_typed_j1 r b = some (if b = true then 9 else r.2) := by cases b <;> rfl
theorem sema_both_j1_e (r s : TType × Int) (b : Bool) : sema_both_j1 r s b = some (r.1, if b = true then 9 else s.2) := by cases b <;> rfl
theorem sema_t : ∀ n, SemaT n := by
  intro n
  induction n with
  | zero => exact ⟨fun _ _ _ _ _ _ _ _ h => by omega, fun _ _ _ _ _ _ _ _ _ _ h => by omega, fun _ _ _ _ _ _ _ _ _ _ _ h => by omega, fun _ _ _ _ _ _ _ h => by omega, fun _ _ _ _ _ _ _ h => by omega⟩
  | succ n ih =>
    refine ⟨fun k p d B x t H hx hn => ?_, fun k p d B x kind H hx hl hk hn => ?_, fun k p d B x a b H hx ha hb hn => ?_, fun k p d B x H hx hn => ?_, fun k p d B x H hx hn => ?_⟩
    · show ∃ e, sema_typed (SemaE_run n) p d B x t = some e ∧ _
      obtain ⟨t', e, h1, h2⟩ := ih.expr k p d B x H hx (by omega)
      rw [sema_typed, h1, bS]
      by_cases z : e = 0
      · rw [if_pos z, sema_bare_e, bS, sema_typed_j1_e]
        exact ⟨_, rfl, fun _ => (h2 z).2⟩
      · rw [if_neg z, sema_typed_j1_e]
        exact ⟨e, rfl, fun h => absurd h z⟩
    · show ∃ od e, sema_args (SemaE_run n) p d B x kind = some (od, e) ∧ _
      rw [sema_args, sema_find_e, bS]
      by_cases c : isK (mget p.named x.Name) kind = true
      · obtain ⟨f, hf, fk⟩ := isK_t c
        rw [if_pos c, hf]
        simp only [bS]
        have hp := H.pg _ _ hf
        have hpl := hp.pl (by omega)
        by_cases q : (f.Params.length : Int) ≠ x.Kids.length
        · rw [decide_eq_true q]; exact ⟨none, 5, rfl, fun h => absurd h (by decide)⟩
        · rw [decide_eq_false q, sema_args_j1, if_neg (by decide)]
          simp only [bS]
          have L : ∀ (m i : Nat), i ≤ f.Params.length → f.Params.length < m + i → ∃ od e, sema_args_l1 (SemaE_run n) x p d B (some f, isK (some f) kind) f m i = some (od, e) ∧ (e = 0 → od = some f ∧ ∀ y ∈ x.Kids.drop i, Calls p k y) := by
            intro m
            induction m with
            | zero => intro i h1 h2; omega
            | succ m ihm =>
              intro i h1 h2
              rw [sema_args_l1]
              by_cases c : i < f.Params.length
              · have hi : i < x.Kids.length := by omega
                obtain ⟨e, e1, e2⟩ := ih.typed k p d B x.Kids[i] f.Params[i].Typ H (hx _ (List.getElem_mem _)) (by omega)
                rw [if_pos (by omega), at_nat, List.getElem?_eq_getElem c, bS, at_nat, List.getElem?_eq_getElem hi, bS, e1, bS]
                by_cases z : e = 0
                · rw [if_neg (by simpa using z), i64_ok (by omega), bS]
                  obtain ⟨od, e', r1, r2⟩ := ihm (i + 1) c (by omega)
                  refine ⟨od, e', r1, fun hz => ⟨(r2 hz).1, fun y hy => ?_⟩⟩
                  rw [List.drop_eq_getElem_cons hi] at hy
                  rcases List.mem_cons.1 hy with rfl | hy
                  · exact e2 z
                  · exact (r2 hz).2 y hy
                · rw [if_pos z]; exact ⟨none, e, rfl, fun h => absurd h z⟩
              · rw [if_neg (by omega), List.drop_eq_nil_of_le (by omega)]
                exact ⟨some f, 0, rfl, fun _ => ⟨rfl, by simp⟩⟩
          obtain ⟨od, e, r1, r2⟩ := L (f.Params.length + 1) 0 (by omega) (by omega)
          refine ⟨od, e, r1, fun hz => ?_⟩
          obtain ⟨s1, s2⟩ := r2 hz
          rw [List.drop_zero] at s2
          exact ⟨f, s1, rfl, fk, s2⟩
      · rw [if_neg c]
        exact ⟨none, 7, rfl, fun h => absurd h (by decide)⟩
    · show ∃ t e, sema_both (SemaE_run n) p d B x = some (t, e) ∧ _
      obtain ⟨t1, e1, h1, h2⟩ := ih.expr k p d B a H ha (by omega)
      obtain ⟨t2, e2, g1, g2⟩ := ih.expr k p d B b H hb (by omega)
      have k0 : at_ x.Kids 0 = some a := by rw [hx]; rfl
      have k1 : at_ x.Kids 1 = some b := by rw [hx]; rfl
      rw [sema_both, k0, bS, h1, bS]
      by_cases z : e1 = 0
      · rw [if_neg (by simpa using z), k1, bS, g1, bS]
        by_cases z2 : e2 = 0
        · have fin : ∀ b', ∃ t e, sema_both_j1 (t1, e1) (t2, e2) b' = some (t, e) ∧ (e = 0 → Calls p k a ∧ Calls p k b) := fun b' => by rw [sema_both_j1_e]; exact ⟨_, _, rfl, fun _ => ⟨(h2 z).2, (g2 z2).2⟩⟩
          rw [if_pos z2]
          split
          · rw [sema_plain_e, bS]; exact fin _
          · exact fin _
        · rw [if_neg z2, sema_both_j1_e]
          exact ⟨_, e2, rfl, fun h => absurd h z2⟩
      · rw [if_pos z]
        exact ⟨_, e1, rfl, fun h => absurd h z⟩
    · show ∃ od e, sema_handle (SemaE_run n) p d B x = some (od, e) ∧ _
      obtain ⟨t, e, h1, h2⟩ := ih.expr k p d B x H hx (by omega)
      rw [sema_handle, h1, bS]
      by_cases z : e = 0
      · rw [if_neg (by simpa using z), sema_plain_e, bS]
        by_cases q : t.Kind ≠ 3
        · rw [if_pos (decide_eq_true q)]; exact ⟨none, 9, rfl, fun h => absurd h (by decide)⟩
        · obtain ⟨f, f1, f2⟩ := (h2 z).1 (Decidable.not_not.1 q)
          rw [if_neg (by simpa using q)]
          exact ⟨_, 0, rfl, fun _ => ⟨⟨f, t.Gen, f1, f1, f2⟩, (h2 z).2⟩⟩
      · rw [if_pos z]
        exact ⟨none, e, rfl, fun h => absurd h z⟩
    · show ∃ t e, sema_expr n (SemaE_run n) p d B x = some (t, e) ∧ _
      cases k with
      | zero => cases hx
      | succ k =>
      obtain ⟨k1, k24, hk, hks⟩ := hx
      have kl : kidN x.Kind = 1 → ∃ a, x.Kids = [a] ∧ OkE k a := fun h => by
        obtain ⟨a, ha⟩ := one (l := x.Kids) (by have := hk.eq (by omega); omega)
        exact ⟨a, ha, hks a (by simp [ha])⟩
      have kl2 : kidN x.Kind = 2 → ∃ a b, x.Kids = [a, b] ∧ OkE k a ∧ OkE k b := fun h => by
        obtain ⟨a, b, ha⟩ := two (l := x.Kids) (by have := hk.eq (by omega); omega)
        exact ⟨a, b, ha, hks a (by simp [ha]), hks b (by simp [ha])⟩
      have kl0 : kidN x.Kind = 0 → x.Kids = [] := fun h => List.length_eq_zero_iff.1 (by have := hk.eq (by omega); omega)
      have ca : x.Kind ≠ 19 → x.Kind ≠ 20 → x.Kind ≠ 22 → (∀ y ∈ x.Kids, Calls p k y) → Calls p (k + 1) x := fun h1 h2 h3 h4 => ⟨fun h => absurd h h1, fun h => absurd h h3, fun h => absurd h h2, h4⟩
      rw [sema_expr]
      by_cases c1 : x.Kind = 1
      · rw [if_pos c1]
        exact ⟨_, 0, rfl, fun _ => ⟨.of (by decide), ca (by omega) (by omega) (by omega) (by rw [kl0 (by rw [c1]; rfl)]; simp)⟩⟩
      rw [if_neg c1]
      by_cases c2 : x.Kind = 2
      · rw [if_pos c2]
        exact ⟨_, 0, rfl, fun _ => ⟨.of (by decide), ca (by omega) (by omega) (by omega) (by rw [kl0 (by rw [c2]; rfl)]; simp)⟩⟩
      rw [if_neg c2]
      by_cases c3 : x.Kind = 3
      · obtain ⟨t, b, h1, h2⟩ := sema_look_t H.sc H.bl n (by omega) d x.Name
        rw [if_pos c3, h1, bS]
        cases b with
        | true => exact ⟨t, 0, rfl, fun _ => ⟨h2 rfl, ca (by omega) (by omega) (by omega) (by rw [kl0 (by rw [c3]; rfl)]; simp)⟩⟩
        | false => exact ⟨_, 7, rfl, fun h => absurd h (by decide)⟩
      rw [if_neg c3]
      by_cases c4 : x.Kind = 4
      · obtain ⟨a, ha, ho⟩ := kl (by rw [c4]; rfl)
        obtain ⟨e, e1, e2⟩ := ih.typed k p d B a ⟨1, []⟩ H ho (by omega)
        have k0 : at_ x.Kids 0 = some a := by rw [ha]; rfl
        rw [if_pos c4, sema_num, bS, k0, bS, bS, e1, bS]
        exact ⟨_, e, rfl, fun hz => ⟨.of (by decide), ca (by omega) (by omega) (by omega) (by rw [ha]; simpa using e2 hz)⟩⟩
      rw [if_neg c4]
      by_cases c5 : x.Kind = 5
      · obtain ⟨a, ha, ho⟩ := kl (by rw [c5]; rfl)
        obtain ⟨e, e1, e2⟩ := ih.typed k p d B a ⟨2, []⟩ H ho (by omega)
        have k0 : at_ x.Kids 0 = some a := by rw [ha]; rfl
        rw [if_pos c5, sema_boolean, bS, k0, bS, bS, e1, bS]
        exact ⟨_, e, rfl, fun hz => ⟨.of (by decide), ca (by omega) (by omega) (by omega) (by rw [ha]; simpa using e2 hz)⟩⟩
      rw [if_neg c5]
      have J3 : ∀ b, (b = true ↔ x.Kind = 11 ∨ x.Kind = 12) → ∃ t e, sema_expr_j3 (SemaE_run n) x p d B b = some (t, e) ∧ (e = 0 → TyOk p t ∧ Calls p (k + 1) x) := by
        intro b hb
        rw [sema_expr_j3]
        by_cases q : b = true
        · have c := hb.1 q
          obtain ⟨a, a', ha, o1, o2⟩ := kl2 (by rcases c with c | c <;> rw [c] <;> rfl)
          obtain ⟨t, e, h1, h2⟩ := ih.both k p d B x a a' H ha o1 o2 (by omega)
          rw [if_pos q, h1, bS, sema_boolean, bS]
          exact ⟨_, e, rfl, fun hz => ⟨.of (by decide), ca (by omega) (by omega) (by omega) (by rw [ha]; simpa using h2 hz)⟩⟩
        rw [if_neg q]
        have q1 : x.Kind ≠ 11 := fun h => q (hb.2 (.inl h))
        have q2 : x.Kind ≠ 12 := fun h => q (hb.2 (.inr h))
        by_cases c19 : x.Kind = 19
        · obtain ⟨od, e, h1, h2⟩ := ih.args k p d B x 2 H hks hk.le (.inl rfl) (by omega)
          rw [if_pos c19, h1, bS]
          by_cases z : e = 0
          · obtain ⟨f, rfl, g1, g2, g3⟩ := h2 z
            rw [if_neg (by simpa using z)]
            simp only [bS]
            rw [sema_bare_e, bS]
            exact ⟨_, 0, rfl, fun _ => ⟨.of (by rw [bareT_kind]; exact (H.pg _ _ g1).ty (by omega)), ⟨fun _ => ⟨f, g1, g2⟩, fun h => by omega, fun h => by omega, g3⟩⟩⟩
          · rw [if_pos z]
            exact ⟨_, e, rfl, fun h => absurd h z⟩
        rw [if_neg c19]
        by_cases c20 : x.Kind = 20
        · rw [if_pos c20, sema_find_e, bS]
          by_cases c : isK (mget p.named x.Name) 1 = true
          · obtain ⟨f, hf, fk⟩ := isK_t c
            rw [if_pos c, hf]
            simp only [bS]
            rw [sema_bare_e, bS]
            exact ⟨_, 0, rfl, fun _ => ⟨.of (by rw [bareT_kind]; exact (H.pg _ _ hf).ty (by omega)), ⟨fun h => by omega, fun h => by omega, fun _ => ⟨f, hf, fk⟩, by rw [kl0 (by rw [c20]; rfl)]; simp⟩⟩⟩
          · rw [if_neg c]
            exact ⟨_, 7, rfl, fun h => absurd h (by decide)⟩
        rw [if_neg c20]
        by_cases c21 : x.Kind = 21
        · obtain ⟨a, ha, ho⟩ := kl (by rw [c21]; rfl)
          obtain ⟨e, e1, e2⟩ := ih.typed k p d B a d.Typ H ho (by omega)
          have k0 : at_ x.Kids 0 = some a := by rw [ha]; rfl
          rw [if_pos c21]
          by_cases cd : d.Kind = 3
          · rw [if_neg (by simpa using cd), sema_bare_e, bS, k0, bS, e1, bS]
            exact ⟨_, e, rfl, fun hz => ⟨.of (by show (bareT d.Takes).Kind ≠ 3; rw [bareT_kind]; exact H.hd.tk cd), ca (by omega) (by omega) (by omega) (by rw [ha]; simpa using e2 hz)⟩⟩
          · rw [if_pos cd]
            exact ⟨_, 8, rfl, fun h => absurd h (by decide)⟩
        rw [if_neg c21]
        by_cases c22 : x.Kind = 22
        · obtain ⟨od, e, h1, h2⟩ := ih.args k p d B x 3 H hks hk.le (.inr rfl) (by omega)
          rw [if_pos c22, h1, bS]
          refine ⟨_, e, rfl, fun hz => ?_⟩
          obtain ⟨f, -, g1, g2, g3⟩ := h2 hz
          exact ⟨fun _ => ⟨f, g1, g2⟩, ⟨fun h => by omega, fun _ => ⟨f, g1, g2⟩, fun h => by omega, g3⟩⟩
        rw [if_neg c22]
        by_cases c23 : x.Kind = 23
        · obtain ⟨a, a', ha, o1, o2⟩ := kl2 (by rw [c23]; rfl)
          obtain ⟨od, e, h1, h2⟩ := ih.handle k p d B a H o1 (by omega)
          have k0 : at_ x.Kids 0 = some a := by rw [ha]; rfl
          have k1 : at_ x.Kids 1 = some a' := by rw [ha]; rfl
          rw [if_pos c23, k0, bS, h1, bS]
          by_cases z : e = 0
          · obtain ⟨⟨f, g, rfl, g1, g2⟩, g3⟩ := h2 z
            obtain ⟨e', r1, r2⟩ := ih.typed k p d B a' f.Takes H o2 (by omega)
            rw [if_neg (by simpa using z)]
            simp only [bS]
            rw [sema_bare_e, bS, k1, bS, r1, bS]
            exact ⟨_, e', rfl, fun hz => ⟨.of (by show (bareT f.Typ).Kind ≠ 3; rw [bareT_kind]; exact (H.pg _ _ g1).ty (by omega)), ca (by omega) (by omega) (by omega) (by rw [ha]; simpa using ⟨g3, r2 hz⟩)⟩⟩
          · rw [if_pos z]
            exact ⟨_, e, rfl, fun h => absurd h z⟩
        rw [if_neg c23]
        by_cases c24 : x.Kind = 24
        · obtain ⟨a, ha, ho⟩ := kl (by rw [c24]; rfl)
          obtain ⟨od, e, h1, h2⟩ := ih.handle k p d B a H ho (by omega)
          have k0 : at_ x.Kids 0 = some a := by rw [ha]; rfl
          rw [if_pos c24, k0, bS, h1, bS, sema_boolean, bS]
          exact ⟨_, e, rfl, fun hz => ⟨.of (by decide), ca (by omega) (by omega) (by omega) (by rw [ha]; simpa using (h2 hz).2)⟩⟩
        rw [if_neg c24]
        have L : ∀ (i1 i2 : Int) (s1 s2 : List UInt8) (m i : Nat), i ≤ x.Kids.length → x.Kids.length < m + i → ∃ e, sema_expr_l1 (SemaE_run n) x p d B i1 s1 i2 s2 m i = some (⟨i2, s2⟩, e) ∧ (e = 0 → ∀ y ∈ x.Kids.drop i, Calls p k y) := by
          intro i1 i2 s1 s2 m
          induction m with
          | zero => intro i h1 h2; omega
          | succ m ihm =>
            intro i h1 h2
            rw [sema_expr_l1]
            by_cases c : i < x.Kids.length
            · have := hk.le
              obtain ⟨e, e1, e2⟩ := ih.typed k p d B x.Kids[i] ⟨i1, s1⟩ H (hks _ (List.getElem_mem _)) (by omega)
              rw [if_pos (by omega), at_nat, List.getElem?_eq_getElem c, bS, e1, bS]
              by_cases z : e = 0
              · rw [if_neg (by simpa using z), i64_ok (by omega), bS]
                obtain ⟨e', r1, r2⟩ := ihm (i + 1) c (by omega)
                refine ⟨e', r1, fun hz y hy => ?_⟩
                rw [List.drop_eq_getElem_cons c] at hy
                rcases List.mem_cons.1 hy with rfl | hy
                · exact e2 z
                · exact r2 hz y hy
              · rw [if_pos z]; exact ⟨e, rfl, fun h => absurd h z⟩
            · rw [if_neg (by omega), List.drop_eq_nil_of_le (by omega)]
              exact ⟨0, rfl, fun _ => by simp⟩
        have J6 : ∀ (i1 i2 : Int) (s1 s2 : List UInt8), i2 ≠ 3 → ∃ t e, sema_expr_j6 (SemaE_run n) x p d B i1 s1 i2 s2 = some (t, e) ∧ (e = 0 → TyOk p t ∧ Calls p (k + 1) x) := by
          intro i1 i2 s1 s2 h
          obtain ⟨e, h1, h2⟩ := L i1 i2 s1 s2 (x.Kids.length + 1) 0 (by omega) (by omega)
          exact ⟨_, e, h1, fun hz => ⟨.of h, ca (by omega) (by omega) (by omega) (by simpa using h2 hz)⟩⟩
        rw [sema_num, bS, bS, sema_boolean]
        simp only [bS]
        split
        · exact J6 _ _ _ _ (by decide)
        · split
          · exact J6 _ _ _ _ (by decide)
          · exact J6 _ _ _ _ (by decide)
      split
      · rename_i h; exact J3 _ (by simp [h])
      · rename_i h; exact J3 _ (by simp [h])
end Go.Y
namespace Go.Y
open Go.Wk Go.Xt
theorem mget_mput {κ β : Type} [DecidableEq κ] : ∀ (m : List (κ × β)) (k k' : κ) (x : β), mget (mput m k x) k' = if k = k' then some x else mget m k'
  | [], k, k', x => rfl
  | (a, b) :: m, k, k', x => by
    rw [mput]
    by_cases c : a = k
    · subst c
      rw [if_pos rfl, mget, mget]
      by_cases d : a = k'
      · rw [if_pos d, if_pos d]
      · rw [if_neg d, if_neg d, if_neg d]
    · rw [if_neg c, mget, mget, mget_mput m k k' x]
      by_cases d : a = k'
      · rw [if_pos d, if_pos d, if_neg fun h => c (d.trans h.symm)]
      · rw [if_neg d, if_neg d]
def CallsS (p : TSp) : Nat → TStat → Prop
  | 0, _ => False
  | k + 1, s => (s.Kind ≠ 6 → Calls p k s.X) ∧ ((s.Kind = 3 ∨ s.Kind = 4) → ∀ y ∈ s.Body, CallsS p k y) ∧ (s.Kind = 3 → ∀ y ∈ s.Else, CallsS p k y) ∧ (s.Kind = 7 → ∃ d, mget p.named s.Name = some d ∧ d.Kind = 1)
theorem sema_pop_t (p : TSp) (d : TDef) (B : Bl) (h : 0 < B.length) (h2 : B.length ≤ 100) : sema_pop p d B = some (B.take (B.length - 1)) := by
  rw [sema_pop, i64_ok (by omega), bS, cut, if_pos (by omega), bS, sema_pop_j1]
  simp
structure SemaST (n : Nat) : Prop where
  stats : ∀ (k : Nat) (p : TSp) (d : TDef) (B : Bl) (l : List TStat), EH p d B → l.length ≤ 50 → (∀ y ∈ l, OkS k y) → B.length + k ≤ 90 → 5 * k + 130 ≤ n →
    ∃ e, (SemaS_run n).sema_stats p d B l = some (e, B) ∧ (e = 0 → ∀ y ∈ l, CallsS p k y)
  stat : ∀ (k : Nat) (p : TSp) (d : TDef) (B : Bl) (s : TStat), EH p d B → 0 < B.length → OkS k s → B.length + k ≤ 91 → 5 * k + 129 ≤ n →
    ∃ e B', (SemaS_run n).sema_stat p d B s = some (e, B') ∧ B'.length = B.length ∧ B'.take (B.length - 1) = B.take (B.length - 1) ∧ ScOk p B' ∧ (e = 0 → CallsS p k s)
theorem sema_stat_j4_e (B : Bl) (r : TType × Int) (b : Bool) : sema_stat_j4 B r b = some (if b = true then 9 else r.2, B) := by cases b <;> rfl
theorem semaS_t : ∀ n, SemaST n := by
  intro n
  induction n with
  | zero => exact ⟨fun _ _ _ _ _ _ _ _ _ h => by omega, fun _ _ _ _ _ _ _ _ _ h => by omega⟩
  | succ n ih =>
    refine ⟨fun k p d B l H hl hx hB hn => ?_, fun k p d B s H h0 hx hB hn => ?_⟩
    · show ∃ e, sema_stats (SemaS_run n) p d B l = some (e, B) ∧ _
      rw [sema_stats, app, if_pos (by simp; omega), bS, sema_stats_j1]
      have L : ∀ (m i : Nat) (B' : Bl), i ≤ l.length → l.length < m + i → B'.length = B.length + 1 → B'.take B.length = B → ScOk p B' →
          ∃ e, sema_stats_l1 (SemaS_run n) l p d m i B' = some (e, B) ∧ (e = 0 → ∀ y ∈ l.drop i, CallsS p k y) := by
        intro m
        induction m with
        | zero => intro i B' h1 h2; omega
        | succ m ihm =>
          intro i B' h1 h2 g1 g2 g3
          rw [sema_stats_l1]
          have pop : ∀ C : Bl, C.length = B.length + 1 → C.take B.length = B → sema_pop p d C = some B := fun C e1 e2 => by
            rw [sema_pop_t p d C (by omega) (by omega), e1, Nat.add_sub_cancel, e2]
          by_cases c : i < l.length
          · obtain ⟨e, B2, r1, r2, r3, r4, r5⟩ := ih.stat k p d B' l[i] ⟨H.pg, H.hd, g3, by omega⟩ (by omega) (hx _ (List.getElem_mem _)) (by omega) (by omega)
            rw [g1, Nat.add_sub_cancel] at r3
            rw [g1] at r2
            have e2 : B2.take B.length = B := r3.trans g2
            rw [if_pos (by omega), at_nat, List.getElem?_eq_getElem c, bS, r1, bS]
            by_cases z : e = 0
            · rw [if_neg (by simpa using z), i64_ok (by omega), bS]
              obtain ⟨e', s1, s2⟩ := ihm (i + 1) B2 c (by omega) r2 e2 r4
              refine ⟨e', s1, fun hz y hy => ?_⟩
              rw [List.drop_eq_getElem_cons c] at hy
              rcases List.mem_cons.1 hy with rfl | hy
              · exact r5 z
              · exact s2 hz y hy
            · rw [if_pos z]
              simp only []
              rw [pop B2 r2 e2, bS]
              exact ⟨e, rfl, fun h => absurd h z⟩
          · rw [if_neg (by omega), pop B' g1 g2, bS, List.drop_eq_nil_of_le (by omega)]
            exact ⟨0, rfl, fun _ => by simp⟩
      have := L (l.length + 1) 0 (B ++ [[]]) (by omega) (by omega) (by simp) (by simp) (fun m hm k' t ht => by
        rcases List.mem_append.1 hm with hm | hm
        · exact H.sc m hm k' t ht
        · rw [List.mem_singleton.1 hm] at ht; cases ht)
      simpa using this
    · show ∃ e B', sema_stat n (SemaS_run n) p d B s = some (e, B') ∧ _
      cases k with
      | zero => cases hx
      | succ k =>
      obtain ⟨k1, k9, hX, hb, he⟩ := hx
      have tt := (sema_t n).typed k p d B s.X
      have te := (sema_t n).expr k p d B s.X
      have same : ∀ e : Int, (e = 0 → CallsS p (k + 1) s) → ∀ o : Option (Int × Bl), o = some (e, B) → ∃ e B', o = some (e, B') ∧ B'.length = B.length ∧ B'.take (B.length - 1) = B.take (B.length - 1) ∧ ScOk p B' ∧ (e = 0 → CallsS p (k + 1) s) :=
        fun e h o ho => ⟨e, B, ho, rfl, rfl, H.sc, h⟩
      have cs : s.Kind ≠ 3 → s.Kind ≠ 4 → s.Kind ≠ 7 → (s.Kind ≠ 6 → Calls p k s.X) → CallsS p (k + 1) s := fun h3 h4 h7 h => ⟨h, fun h => by omega, fun h => absurd h h3, fun h => absurd h h7⟩
      rw [sema_stat]
      by_cases c1 : s.Kind = 1
      · obtain ⟨t, e, h1, h2⟩ := te H (hX (by omega)) (by omega)
        rw [if_pos c1, h1, bS]
        by_cases z : e = 0
        · obtain ⟨t', b, g1, g2⟩ := sema_look_t H.sc H.bl n (by omega) d s.Name
          rw [if_neg (by simpa using z), g1, bS]
          cases b with
          | true => exact same 7 (fun h => absurd h (by decide)) _ rfl
          | false =>
            have hlt : B.length - 1 < B.length := by omega
            have e1 : (B.length : Int) - 1 = ((B.length - 1 : Nat) : Int) := by omega
            rw [if_neg (by simp), i64_ok (by omega), bS, e1, at_nat, List.getElem?_eq_getElem hlt, bS, sema_stat_j1]
            refine ⟨0, _, rfl, by simp, ?_, fun m hm k' u hu => ?_, fun _ => cs (by omega) (by omega) (by omega) fun _ => (h2 z).2⟩
            · simp [List.take_set_of_le]
            · rcases List.mem_or_eq_of_mem_set hm with hm | rfl
              · exact H.sc m hm k' u hu
              · rw [mget_mput] at hu
                split at hu
                · obtain rfl := Option.some.inj hu
                  exact (h2 z).1
                · exact H.sc _ (List.getElem_mem _) k' u hu
        · rw [if_pos z]
          exact same e (fun h => absurd h z) _ rfl
      rw [if_neg c1]
      by_cases c2 : s.Kind = 2
      · obtain ⟨t', b, g1, g2⟩ := sema_look_t H.sc H.bl n (by omega) d s.Name
        rw [if_pos c2, g1, bS]
        cases b with
        | false => exact same 7 (fun h => absurd h (by decide)) _ rfl
        | true =>
          obtain ⟨e, h1, h2⟩ := tt t' H (hX (by omega)) (by omega)
          rw [if_pos rfl, h1, bS]
          exact same e (fun hz => cs (by omega) (by omega) (by omega) fun _ => h2 hz) _ rfl
      rw [if_neg c2]
      have J2 : ∀ b, (b = true ↔ s.Kind = 3 ∨ s.Kind = 4) → ∃ e B', sema_stat_j2 n (SemaS_run n) s p d B b = some (e, B') ∧ B'.length = B.length ∧ B'.take (B.length - 1) = B.take (B.length - 1) ∧ ScOk p B' ∧ (e = 0 → CallsS p (k + 1) s) := by
        intro b hb'
        rw [sema_stat_j2]
        by_cases q : b = true
        · have c := hb'.1 q
          obtain ⟨e, h1, h2⟩ := tt ⟨2, []⟩ H (hX (by omega)) (by omega)
          rw [if_pos q, sema_boolean, bS, h1, bS]
          by_cases z : e = 0
          · rw [if_neg (by simpa using z)]
            obtain ⟨e2, g1, g2⟩ := ih.stats k p d B s.Body H (hb c).1 (hb c).2 (by omega) (by omega)
            rw [g1, bS]
            by_cases z2 : e2 = 0
            · rw [if_neg (by simpa using z2)]
              by_cases c4 : s.Kind = 4
              · rw [decide_eq_true c4]
                exact same e2 (fun _ => ⟨fun _ => h2 z, fun _ => g2 z2, fun h => by omega, fun h => by omega⟩) _ rfl
              · have c3 : s.Kind = 3 := by omega
                obtain ⟨e3, f1, f2⟩ := ih.stats k p d B s.Else H (he c3).1 (he c3).2 (by omega) (by omega)
                rw [decide_eq_false c4, sema_stat_j3, if_neg (by decide)]
                simp only []
                rw [f1, bS]
                exact same e3 (fun hz => ⟨fun _ => h2 z, fun _ => g2 z2, fun _ => f2 hz, fun h => by omega⟩) _ rfl
            · rw [if_pos z2]
              exact same e2 (fun h => absurd h z2) _ rfl
          · rw [if_pos z]
            exact same e (fun h => absurd h z) _ rfl
        rw [if_neg q]
        have q3 : s.Kind ≠ 3 := fun h => q (hb'.2 (.inl h))
        have q4 : s.Kind ≠ 4 := fun h => q (hb'.2 (.inr h))
        by_cases c5 : s.Kind = 5
        · rw [if_pos c5]
          split
          · exact same 8 (fun h => absurd h (by decide)) _ rfl
          · obtain ⟨e, h1, h2⟩ := tt d.Typ H (hX (by omega)) (by omega)
            rw [h1, bS]
            exact same e (fun hz => cs q3 q4 (by omega) fun _ => h2 hz) _ rfl
        rw [if_neg c5]
        by_cases c6 : s.Kind = 6
        · rw [if_pos c6]
          split
          · exact same 8 (fun h => absurd h (by decide)) _ rfl
          · exact same 0 (fun hz => cs q3 q4 (by omega) fun h => absurd c6 h) _ rfl
        rw [if_neg c6]
        by_cases c7 : s.Kind = 7
        · rw [if_pos c7, sema_find_e, bS]
          by_cases c : isK (mget p.named s.Name) 1 = true
          · obtain ⟨f, hf, fk⟩ := isK_t c
            obtain ⟨e, h1, h2⟩ := tt f.Typ H (hX (by omega)) (by omega)
            rw [if_pos c, hf]
            simp only [bS]
            rw [h1, bS]
            exact same e (fun hz => ⟨fun _ => h2 hz, fun h => by omega, fun h => by omega, fun _ => ⟨f, hf, fk⟩⟩) _ rfl
          · rw [if_neg c]
            exact same 7 (fun h => absurd h (by decide)) _ rfl
        rw [if_neg c7]
        by_cases c8 : s.Kind = 8
        · obtain ⟨t, e, h1, h2⟩ := te H (hX (by omega)) (by omega)
          rw [if_pos c8, h1, bS]
          by_cases z : e = 0
          · rw [if_pos z, sema_plain_e, bS, sema_stat_j4_e]
            exact same _ (fun _ => cs q3 q4 (by omega) fun _ => (h2 z).2) _ rfl
          · rw [if_neg z, sema_stat_j4_e]
            exact same e (fun h => absurd h z) _ rfl
        rw [if_neg c8]
        by_cases c9 : s.Kind = 9
        · obtain ⟨t, e, h1, h2⟩ := te H (hX (by omega)) (by omega)
          rw [if_pos c9, h1, bS]
          exact same e (fun hz => cs q3 q4 (by omega) fun _ => (h2 hz).2) _ rfl
        · omega
      split
      · rename_i h; exact J2 _ (by simp [h])
      · rename_i h; exact J2 _ (by simp [h])
theorem sema_typ_t (p : TSp) (t : TType) : ∃ e, sema_typ p t = some e ∧ (e = 0 → TyOk p t) := by
  rw [sema_typ, sema_plain_e, bS]
  by_cases c : t.Kind ≠ 3
  · rw [if_pos (decide_eq_true c)]; exact ⟨0, rfl, fun _ => .of c⟩
  · rw [if_neg (by simpa using c), sema_find_e, bS]
    by_cases q : isK (mget p.named t.Gen) 3 = true
    · rw [if_pos q]; exact ⟨0, rfl, fun _ _ => isK_t q⟩
    · rw [if_neg q]; exact ⟨7, rfl, fun h => absurd h (by decide)⟩
theorem sema_head_t (p : TSp) (d : TDef) (hd : OkD d) : ∃ e, sema_head p d = some e ∧ (e = 0 → HeadOk p d) := by
  have j3 : ∀ b, sema_head_j3 b = some (if b = true then 9 else 0) := fun b => by cases b <;> rfl
  have J2 : (d.Kind = 2 ∨ d.Kind = 3 → ∀ q ∈ d.Params, TyOk p q.Typ) → ∃ e, sema_head_j2 d = some e ∧ (e = 0 → HeadOk p d) := by
    intro g
    rw [sema_head_j2]
    have hpl : d.Kind = 2 ∨ d.Kind = 3 → d.Params.length ≤ 6 := fun h => (hd.ps h).1
    by_cases c3 : d.Kind = 3
    · rw [if_pos c3, sema_plain_e, bS]
      by_cases q : d.Takes.Kind ≠ 3
      · rw [if_pos (decide_eq_true q), if_pos (by omega), sema_plain_e, bS, j3]
        refine ⟨_, rfl, fun hz => ⟨fun _ h => ?_, fun _ => q, g, hpl⟩⟩
        simp [h] at hz
      · rw [if_neg (by simpa using q), j3]
        exact ⟨9, rfl, fun h => absurd h (by decide)⟩
    · rw [if_neg c3]
      by_cases c4 : d.Kind = 4
      · rw [if_neg (by simpa using c4), j3]
        exact ⟨0, rfl, fun _ => ⟨fun h => absurd c4 h, fun h => absurd h c3, g, hpl⟩⟩
      · rw [if_pos c4, sema_plain_e, bS, j3]
        refine ⟨_, rfl, fun hz => ⟨fun _ h => ?_, fun h => absurd h c3, g, hpl⟩⟩
        simp [h] at hz
  have J1 : ∀ b, (b = true ↔ d.Kind = 2 ∨ d.Kind = 3) → ∃ e, sema_head_j1 p d b = some e ∧ (e = 0 → HeadOk p d) := by
    intro b hb
    rw [sema_head_j1]
    by_cases q : b = true
    · rw [if_pos q]
      have hp := hd.ps (hb.1 q)
      have L : ∀ (m i : Nat) (S : List (List UInt8 × Int)), i ≤ d.Params.length → d.Params.length < m + i → (∀ k c, mget S k = some c → 0 ≤ c ∧ c ≤ 1) → (∀ q ∈ d.Params.take i, TyOk p q.Typ) → ∃ e, sema_head_l1 p d m i S = some e ∧ (e = 0 → HeadOk p d) := by
        intro m
        induction m with
        | zero => intro i S h1 h2; omega
        | succ m ihm =>
          intro i S h1 h2 g1 g2
          rw [sema_head_l1]
          by_cases c : i < d.Params.length
          · have hc : 0 ≤ (mget S d.Params[i].Name).getD 0 ∧ (mget S d.Params[i].Name).getD 0 ≤ 1 := by
              cases h : mget S d.Params[i].Name with
              | none => decide
              | some v => exact g1 _ _ h
            rw [if_pos (by omega), at_nat, List.getElem?_eq_getElem c, bS, i64_ok (by omega), bS, mget_mput, if_pos rfl]
            simp only [Option.getD_some]
            by_cases w : (1 : Int) < (mget S d.Params[i].Name).getD 0 + 1
            · rw [if_pos w]; exact ⟨7, rfl, fun h => absurd h (by decide)⟩
            · obtain ⟨e, e1, e2⟩ := sema_typ_t p d.Params[i].Typ
              rw [if_neg w, e1, bS]
              by_cases z : e = 0
              · rw [if_neg (by simpa using z), i64_ok (by omega), bS]
                refine ihm (i + 1) _ c (by omega) (fun k v hv => ?_) fun y hy => ?_
                · rw [mget_mput] at hv
                  split at hv
                  · obtain rfl := Option.some.inj hv
                    omega
                  · exact g1 _ _ hv
                · rw [List.take_succ_eq_append_getElem c] at hy
                  rcases List.mem_append.1 hy with hy | hy
                  · exact g2 y hy
                  · rw [List.mem_singleton.1 hy]; exact e2 z
              · rw [if_pos z]; exact ⟨e, rfl, fun h => absurd h z⟩
          · rw [if_neg (by omega)]
            rw [List.take_of_length_le (by omega)] at g2
            exact J2 fun _ => g2
      exact L (d.Params.length + 1) 0 [] (by omega) (by omega) (fun k c h => by cases h) (by simp)
    · rw [if_neg q]
      exact J2 fun h => absurd (hb.2 h) q
  rw [sema_head]
  split
  · rename_i h; exact J1 _ (by simp [h])
  · rename_i h; exact J1 _ (by simp [h])
theorem sema_body_t (fu : Nat) (hf : 500 ≤ fu) (p : TSp) (d : TDef) (hp : Pg p) (hh : HeadOk p d) (hd : OkD d) : ∃ e, sema_body fu p d = some e ∧ (e = 0 → d.Kind ≠ 1 → ∀ y ∈ d.Body, CallsS p 39 y) := by
  rw [sema_body]
  by_cases c1 : d.Kind = 1
  · rw [if_pos c1]; exact ⟨0, rfl, fun _ h => absurd c1 h⟩
  · rw [if_neg c1]
    have J1 : ∀ B : Bl, B.length = 1 → ScOk p B → ∃ e, sema_body_j1 fu p d B = some e ∧ (e = 0 → d.Kind ≠ 1 → ∀ y ∈ d.Body, CallsS p 39 y) := by
      intro B h1 h2
      obtain ⟨e, r1, r2⟩ := (semaS_t fu).stats 39 p d B d.Body ⟨hp, hh, h2, by omega⟩ (hd.bl c1) (hd.bo c1) (by omega) (by omega)
      rw [sema_body_j1, r1, bS]
      exact ⟨e, rfl, fun hz _ => r2 hz⟩
    by_cases c4 : d.Kind = 4
    · rw [if_neg (by simpa using c4)]
      exact J1 _ rfl (fun m hm k t ht => by rw [List.mem_singleton.1 hm] at ht; cases ht)
    · rw [if_pos c4]
      have k23 : d.Kind = 2 ∨ d.Kind = 3 := by have := hd.k1; have := hd.k4; omega
      have hpl := hh.pl k23
      have L : ∀ (m i : Nat) (B : Bl), i ≤ d.Params.length → d.Params.length < m + i → B.length = 1 → ScOk p B → ∃ e, sema_body_l1 fu p d m i B = some e ∧ (e = 0 → d.Kind ≠ 1 → ∀ y ∈ d.Body, CallsS p 39 y) := by
        intro m
        induction m with
        | zero => intro i B h1 h2; omega
        | succ m ihm =>
          intro i B h1 h2 g1 g2
          rw [sema_body_l1]
          by_cases c : i < d.Params.length
          · have h0 : 0 < B.length := by omega
            rw [if_pos (by omega), at_nat, List.getElem?_eq_getElem c, bS, at_0 h0, bS, sema_bare_e, bS, sema_body_j2, i64_ok (by omega), bS]
            refine ihm (i + 1) _ c (by omega) (by simpa using g1) fun m' hm' k t ht => ?_
            rcases List.mem_or_eq_of_mem_set hm' with hm' | rfl
            · exact g2 m' hm' k t ht
            · rw [mget_mput] at ht
              split at ht
              · obtain rfl := Option.some.inj ht
                exact (hh.ps k23 _ (List.getElem_mem _)).bare
              · exact g2 _ (List.getElem_mem _) k t ht
          · rw [if_neg (by omega)]
            exact J1 B g1 g2
      exact L (d.Params.length + 1) 0 _ (by omega) (by omega) rfl (fun m hm k t ht => by rw [List.mem_singleton.1 hm] at ht; cases ht)
structure Right (p : TSp) (l : List TDef) : Prop where
  ok : OkP l
  nm : ∀ d ∈ l, mget p.named d.Name = some d
  only : ∀ k d, mget p.named k = some d → d ∈ l ∧ d.Name = k
  nd : l.Pairwise fun a b => a.Name ≠ b.Name
  tk : ∃ d ∈ l, d.Kind = 4
  hd : ∀ d ∈ l, HeadOk p d
  cs : ∀ d ∈ l, d.Kind ≠ 1 → ∀ y ∈ d.Body, CallsS p 39 y
theorem sema_named_t (fu : Nat) (hf : 500 ≤ fu) (l : List TDef) : ∃ p f, sema_named fu l = some (p, f) ∧ (f.Err = 0 → Right p l) := by
  obtain ⟨f, h1, h2⟩ := syn_wrong_t fu (by omega) l
  rw [sema_named, h1, bS]
  by_cases z : f.Err = 0
  · obtain ⟨-, ok⟩ := h2 z
    have hl := ok.le
    rw [if_neg (by simpa using z)]
    have L3 : ∀ (N : List (List UInt8 × TDef)), (∀ d ∈ l, mget N d.Name = some d) → (∀ k d, mget N k = some d → d ∈ l ∧ d.Name = k) → l.Pairwise (fun a b => a.Name ≠ b.Name) → (∃ d ∈ l, d.Kind = 4) → (∀ d ∈ l, HeadOk ⟨l, N⟩ d) →
        ∀ (m i : Nat), i ≤ l.length → l.length < m + i → (∀ d ∈ l.take i, d.Kind ≠ 1 → ∀ y ∈ d.Body, CallsS ⟨l, N⟩ 39 y) → ∃ p f, sema_named_l3 fu l N m i = some (p, f) ∧ (f.Err = 0 → Right p l) := by
      intro N n1 n2 n3 n4 n5 m
      induction m with
      | zero => intro i h1 h2; omega
      | succ m ihm =>
        intro i h1 h2 g
        rw [sema_named_l3]
        by_cases c : i < l.length
        · obtain ⟨e, e1, e2⟩ := sema_body_t fu hf ⟨l, N⟩ l[i] (fun k d hd => n5 d (n2 k d hd).1) (n5 _ (List.getElem_mem _)) (ok.ok _ (List.getElem_mem _))
          rw [if_pos (by omega), at_nat, List.getElem?_eq_getElem c, bS, e1, bS]
          by_cases z : e = 0
          · rw [if_neg (by simpa using z), i64_ok (by omega), bS]
            refine ihm (i + 1) c (by omega) fun d hd => ?_
            rw [List.take_succ_eq_append_getElem c] at hd
            rcases List.mem_append.1 hd with hd | hd
            · exact g d hd
            · rw [List.mem_singleton.1 hd]; exact e2 z
          · rw [if_pos z]; exact ⟨_, _, rfl, fun h => absurd h z⟩
        · rw [if_neg (by omega)]
          rw [List.take_of_length_le (by omega)] at g
          exact ⟨_, _, rfl, fun _ => ⟨ok, n1, n2, n3, n4, n5, g⟩⟩
    have L2 : ∀ (N : List (List UInt8 × TDef)), (∀ d ∈ l, mget N d.Name = some d) → (∀ k d, mget N k = some d → d ∈ l ∧ d.Name = k) → l.Pairwise (fun a b => a.Name ≠ b.Name) → (∃ d ∈ l, d.Kind = 4) →
        ∀ (m i : Nat), i ≤ l.length → l.length < m + i → (∀ d ∈ l.take i, HeadOk ⟨l, N⟩ d) → ∃ p f, sema_named_l2 fu l N m i = some (p, f) ∧ (f.Err = 0 → Right p l) := by
      intro N n1 n2 n3 n4 m
      induction m with
      | zero => intro i h1 h2; omega
      | succ m ihm =>
        intro i h1 h2 g
        rw [sema_named_l2]
        by_cases c : i < l.length
        · obtain ⟨e, e1, e2⟩ := sema_head_t ⟨l, N⟩ l[i] (ok.ok _ (List.getElem_mem _))
          rw [if_pos (by omega), at_nat, List.getElem?_eq_getElem c, bS, e1, bS]
          by_cases z : e = 0
          · rw [if_neg (by simpa using z), i64_ok (by omega), bS]
            refine ihm (i + 1) c (by omega) fun d hd => ?_
            rw [List.take_succ_eq_append_getElem c] at hd
            rcases List.mem_append.1 hd with hd | hd
            · exact g d hd
            · rw [List.mem_singleton.1 hd]; exact e2 z
          · rw [if_pos z]; exact ⟨_, _, rfl, fun h => absurd h z⟩
        · rw [if_neg (by omega)]
          rw [List.take_of_length_le (by omega)] at g
          exact L3 N n1 n2 n3 n4 g (l.length + 1) 0 (by omega) (by omega) (by simp)
    have L1 : ∀ (m i : Nat) (t : Int) (N : List (List UInt8 × TDef)), i ≤ l.length → l.length < m + i → 0 ≤ t → t ≤ i → (t ≠ 0 → ∃ d ∈ l, d.Kind = 4) → (∀ d ∈ l.take i, mget N d.Name = some d) → (∀ k d, mget N k = some d → d ∈ l.take i ∧ d.Name = k) → (l.take i).Pairwise (fun a b => a.Name ≠ b.Name) →
        ∃ p f, sema_named_l1 fu l m t i N = some (p, f) ∧ (f.Err = 0 → Right p l) := by
      intro m
      induction m with
      | zero => intro i t N h1 h2; omega
      | succ m ihm =>
        intro i t N h1 h2 g1 g2 g3 g4 g5 g6
        rw [sema_named_l1]
        by_cases c : i < l.length
        · have e0 : at_ l (i : Int) = some l[i] := by rw [at_nat, List.getElem?_eq_getElem c]
          rw [if_pos (by omega), e0, bS]
          cases h : mget N l[i].Name with
          | some v => rw [if_pos (by simp)]; exact ⟨_, _, rfl, fun h => absurd h (by decide : (7 : Int) ≠ 0)⟩
          | none =>
            rw [if_neg (by simp)]
            simp only [bS]
            have hm : l[i] ∈ l := List.getElem_mem _
            have tk := List.take_succ_eq_append_getElem c
            have nn : ∀ d ∈ l.take i, d.Name ≠ l[i].Name := fun d hd he => by
              have := g4 d hd
              rw [he, h] at this
              cases this
            have q1 : ∀ d ∈ l.take (i + 1), mget (mput N l[i].Name l[i]) d.Name = some d := by
              intro d hd
              rw [tk] at hd
              rw [mget_mput]
              rcases List.mem_append.1 hd with hd | hd
              · rw [if_neg fun he => nn d hd he.symm]; exact g4 d hd
              · rw [List.mem_singleton.1 hd, if_pos rfl]
            have q2 : ∀ k d, mget (mput N l[i].Name l[i]) k = some d → d ∈ l.take (i + 1) ∧ d.Name = k := by
              intro k d hd
              rw [mget_mput] at hd
              rw [tk]
              split at hd
              · rename_i hk
                obtain rfl := Option.some.inj hd
                exact ⟨List.mem_append.2 (.inr (List.mem_singleton.2 rfl)), hk⟩
              · obtain ⟨r1, r2⟩ := g5 k d hd
                exact ⟨List.mem_append.2 (.inl r1), r2⟩
            have q3 : (l.take (i + 1)).Pairwise (fun a b => a.Name ≠ b.Name) := by
              rw [tk, List.pairwise_append]
              refine ⟨g6, List.pairwise_singleton _ _, fun a ha b hb => ?_⟩
              rw [List.mem_singleton.1 hb]
              exact nn a ha
            by_cases k4 : l[i].Kind = 4
            · rw [if_pos k4, i64_ok (by omega), bS, i64_ok (by omega), bS]
              exact ihm (i + 1) (t + 1) _ c (by omega) (by omega) (by omega) (fun _ => ⟨_, hm, k4⟩) q1 q2 q3
            · rw [if_neg k4, i64_ok (by omega), bS]
              exact ihm (i + 1) t _ c (by omega) g1 (by omega) g3 q1 q2 q3
        · rw [if_neg (by omega)]
          rw [List.take_of_length_le (by omega)] at g4 g5 g6
          by_cases t0 : t = 0
          · rw [if_pos t0]; exact ⟨_, _, rfl, fun h => absurd h (by decide : (6 : Int) ≠ 0)⟩
          · rw [if_neg t0]
            exact L2 N g4 g5 g6 (g3 t0) (l.length + 1) 0 (by omega) (by omega) (by simp)
    exact L1 (l.length + 1) 0 0 [] (by omega) (by omega) (by omega) (by omega) (fun h => absurd rfl h) (by simp) (fun k d h => by cases h) (by simp)
  · rw [if_pos z]
    exact ⟨_, _, rfl, fun h => absurd h z⟩
end Go.Y
namespace Go.Y
open Go.Wk Go.Xt
def Vars (B : Bl) : Prop := ∃ m ∈ B, m ≠ []
def CallsV (p : TSp) (V : Prop) : Nat → TExpr → Prop
  | 0, _ => False
  | k + 1, x => (x.Kind = 19 → ∃ d, mget p.named x.Name = some d ∧ d.Kind = 2) ∧ (x.Kind = 22 → ∃ d, mget p.named x.Name = some d ∧ d.Kind = 3) ∧ (x.Kind = 20 → ∃ d, mget p.named x.Name = some d ∧ d.Kind = 1) ∧ (x.Kind = 3 → V) ∧ ∀ y ∈ x.Kids, CallsV p V k y
theorem CallsV.mono {p : TSp} {V V' : Prop} (h : V → V') : ∀ {k : Nat} {x : TExpr}, CallsV p V k x → CallsV p V' k x
  | 0, _, g => g
  | k + 1, x, ⟨a, b, c, d, e⟩ => ⟨a, b, c, fun q => h (d q), fun y hy => CallsV.mono h (e y hy)⟩
def LSV (C : Prop → TStat → Prop) : Prop → List TStat → Prop
  | _, [] => True
  | V, s :: t => C V s ∧ LSV C (V ∨ s.Kind = 1) t
def CSV (p : TSp) : Nat → Prop → TStat → Prop
  | 0, _, _ => False
  | k + 1, V, s => (s.Kind ≠ 6 → CallsV p V k s.X) ∧ ((s.Kind = 3 ∨ s.Kind = 4) → LSV (CSV p k) V s.Body) ∧ (s.Kind = 3 → LSV (CSV p k) V s.Else) ∧ (s.Kind = 7 → ∃ d, mget p.named s.Name = some d ∧ d.Kind = 1) ∧ (s.Kind = 2 → V)
theorem LSV.mono {C : Prop → TStat → Prop} (hC : ∀ (V V' : Prop) (s : TStat), (V → V') → C V s → C V' s) : ∀ {V V' : Prop} {l : List TStat}, (V → V') → LSV C V l → LSV C V' l
  | _, _, [], h, g => g
  | V, V', s :: t, h, ⟨a, b⟩ => ⟨hC V V' s h a, LSV.mono hC (fun q => q.imp h id) b⟩
theorem CSV.mono {p : TSp} : ∀ {k : Nat} {V V' : Prop} {s : TStat}, (V → V') → CSV p k V s → CSV p k V' s
  | 0, _, _, _, h, g => g
  | k + 1, V, V', s, h, ⟨a, b, c, d, e⟩ => ⟨fun q => CallsV.mono h (a q), fun q => LSV.mono (C := CSV p k) (fun _ _ _ h => CSV.mono h) h (b q), fun q => LSV.mono (C := CSV p k) (fun _ _ _ h => CSV.mono h) h (c q), d, fun q => h (e q)⟩
theorem lookV {p : TSp} {B : Bl} (hB : ScOk p B) (hl : B.length ≤ 100) (fu : Nat) (hf : 110 ≤ fu) (d : TDef) (name : List UInt8) : ∃ t b, sema_look fu p d B name = some (t, b) ∧ (b = true → TyOk p t ∧ Vars B) := by
  have L : ∀ (n j : Nat), j ≤ B.length → j < n → ∃ t b, sema_look_l1 name B n ((j : Int) - 1) = some (t, b) ∧ (b = true → TyOk p t ∧ Vars B) := by
    intro n
    induction n with
    | zero => intro j h1 h2; omega
    | succ n ih =>
      intro j h1 h2
      rw [sema_look_l1]
      cases j with
      | zero => rw [if_neg (by omega)]; exact ⟨_, _, rfl, by simp⟩
      | succ j =>
        have e : ((j + 1 : Nat) : Int) - 1 = (j : Int) := by omega
        rw [e, if_pos (by omega), at_nat, List.getElem?_eq_getElem (show j < B.length by omega), bS]
        cases h : mget B[j] name with
        | none =>
          rw [if_neg (by simp), i64_ok (by omega), bS]
          exact ih j (by omega) (by omega)
        | some t => exact ⟨t, true, rfl, fun _ => ⟨hB _ (List.getElem_mem _) _ _ h, ⟨B[j], List.getElem_mem _, fun e => by rw [e] at h; cases h⟩⟩⟩
  rw [sema_look, i64_ok (by omega), bS]
  exact L fu B.length (by omega) (by omega)
structure SemaTV (n : Nat) : Prop where
  typed : ∀ (k : Nat) (p : TSp) (d : TDef) (B : Bl) (x : TExpr) (t : TType), EH p d B → OkE k x → 3 * k + 111 ≤ n → ∃ e, (SemaE_run n).sema_typed p d B x t = some e ∧ (e = 0 → CallsV p (Vars B) k x)
  args : ∀ (k : Nat) (p : TSp) (d : TDef) (B : Bl) (x : TExpr) (kind : Int), EH p d B → (∀ y ∈ x.Kids, OkE k y) → x.Kids.length ≤ 6 → (kind = 2 ∨ kind = 3) → 3 * k + 112 ≤ n →
    ∃ od e, (SemaE_run n).sema_args p d B x kind = some (od, e) ∧ (e = 0 → ∃ f, od = some f ∧ mget p.named x.Name = some f ∧ f.Kind = kind ∧ ∀ y ∈ x.Kids, CallsV p (Vars B) k y)
  both : ∀ (k : Nat) (p : TSp) (d : TDef) (B : Bl) (x a b : TExpr), EH p d B → x.Kids = [a, b] → OkE k a → OkE k b → 3 * k + 112 ≤ n → ∃ t e, (SemaE_run n).sema_both p d B x = some (t, e) ∧ (e = 0 → CallsV p (Vars B) k a ∧ CallsV p (Vars B) k b)
  handle : ∀ (k : Nat) (p : TSp) (d : TDef) (B : Bl) (x : TExpr), EH p d B → OkE k x → 3 * k + 112 ≤ n → ∃ od e, (SemaE_run n).sema_handle p d B x = some (od, e) ∧ (e = 0 → (∃ f g, od = some f ∧ mget p.named g = some f ∧ f.Kind = 3) ∧ CallsV p (Vars B) k x)
  expr : ∀ (k : Nat) (p : TSp) (d : TDef) (B : Bl) (x : TExpr), EH p d B → OkE k x → 3 * k + 110 ≤ n → ∃ t e, (SemaE_run n).sema_expr p d B x = some (t, e) ∧ (e = 0 → TyOk p t ∧ CallsV p (Vars B) k x)
theorem semaV_t : ∀ n, SemaTV n := by
  intro n
  induction n with
  | zero => exact ⟨fun _ _ _ _ _ _ _ _ h => by omega, fun _ _ _ _ _ _ _ _ _ _ h => by omega, fun _ _ _ _ _ _ _ _ _ _ _ h => by omega, fun _ _ _ _ _ _ _ h => by omega, fun _ _ _ _ _ _ _ h => by omega⟩
  | succ n ih =>
    refine ⟨fun k p d B x t H hx hn => ?_, fun k p d B x kind H hx hl hk hn => ?_, fun k p d B x a b H hx ha hb hn => ?_, fun k p d B x H hx hn => ?_, fun k p d B x H hx hn => ?_⟩
    · show ∃ e, sema_typed (SemaE_run n) p d B x t = some e ∧ _
      obtain ⟨t', e, h1, h2⟩ := ih.expr k p d B x H hx (by omega)
      rw [sema_typed, h1, bS]
      by_cases z : e = 0
      · rw [if_pos z, sema_bare_e, bS, sema_typed_j1_e]
        exact ⟨_, rfl, fun _ => (h2 z).2⟩
      · rw [if_neg z, sema_typed_j1_e]
        exact ⟨e, rfl, fun h => absurd h z⟩
    · show ∃ od e, sema_args (SemaE_run n) p d B x kind = some (od, e) ∧ _
      rw [sema_args, sema_find_e, bS]
      by_cases c : isK (mget p.named x.Name) kind = true
      · obtain ⟨f, hf, fk⟩ := isK_t c
        rw [if_pos c, hf]
        simp only [bS]
        have hp := H.pg _ _ hf
        have hpl := hp.pl (by omega)
        by_cases q : (f.Params.length : Int) ≠ x.Kids.length
        · rw [decide_eq_true q]; exact ⟨none, 5, rfl, fun h => absurd h (by decide)⟩
        · rw [decide_eq_false q, sema_args_j1, if_neg (by decide)]
          simp only [bS]
          have L : ∀ (m i : Nat), i ≤ f.Params.length → f.Params.length < m + i → ∃ od e, sema_args_l1 (SemaE_run n) x p d B (some f, isK (some f) kind) f m i = some (od, e) ∧ (e = 0 → od = some f ∧ ∀ y ∈ x.Kids.drop i, CallsV p (Vars B) k y) := by
            intro m
            induction m with
            | zero => intro i h1 h2; omega
            | succ m ihm =>
              intro i h1 h2
              rw [sema_args_l1]
              by_cases c : i < f.Params.length
              · have hi : i < x.Kids.length := by omega
                obtain ⟨e, e1, e2⟩ := ih.typed k p d B x.Kids[i] f.Params[i].Typ H (hx _ (List.getElem_mem _)) (by omega)
                rw [if_pos (by omega), at_nat, List.getElem?_eq_getElem c, bS, at_nat, List.getElem?_eq_getElem hi, bS, e1, bS]
                by_cases z : e = 0
                · rw [if_neg (by simpa using z), i64_ok (by omega), bS]
                  obtain ⟨od, e', r1, r2⟩ := ihm (i + 1) c (by omega)
                  refine ⟨od, e', r1, fun hz => ⟨(r2 hz).1, fun y hy => ?_⟩⟩
                  rw [List.drop_eq_getElem_cons hi] at hy
                  rcases List.mem_cons.1 hy with rfl | hy
                  · exact e2 z
                  · exact (r2 hz).2 y hy
                · rw [if_pos z]; exact ⟨none, e, rfl, fun h => absurd h z⟩
              · rw [if_neg (by omega), List.drop_eq_nil_of_le (by omega)]
                exact ⟨some f, 0, rfl, fun _ => ⟨rfl, by simp⟩⟩
          obtain ⟨od, e, r1, r2⟩ := L (f.Params.length + 1) 0 (by omega) (by omega)
          refine ⟨od, e, r1, fun hz => ?_⟩
          obtain ⟨s1, s2⟩ := r2 hz
          rw [List.drop_zero] at s2
          exact ⟨f, s1, rfl, fk, s2⟩
      · rw [if_neg c]
        exact ⟨none, 7, rfl, fun h => absurd h (by decide)⟩
    · show ∃ t e, sema_both (SemaE_run n) p d B x = some (t, e) ∧ _
      obtain ⟨t1, e1, h1, h2⟩ := ih.expr k p d B a H ha (by omega)
      obtain ⟨t2, e2, g1, g2⟩ := ih.expr k p d B b H hb (by omega)
      have k0 : at_ x.Kids 0 = some a := by rw [hx]; rfl
      have k1 : at_ x.Kids 1 = some b := by rw [hx]; rfl
      rw [sema_both, k0, bS, h1, bS]
      by_cases z : e1 = 0
      · rw [if_neg (by simpa using z), k1, bS, g1, bS]
        by_cases z2 : e2 = 0
        · have fin : ∀ b', ∃ t e, sema_both_j1 (t1, e1) (t2, e2) b' = some (t, e) ∧ (e = 0 → CallsV p (Vars B) k a ∧ CallsV p (Vars B) k b) := fun b' => by rw [sema_both_j1_e]; exact ⟨_, _, rfl, fun _ => ⟨(h2 z).2, (g2 z2).2⟩⟩
          rw [if_pos z2]
          split
          · rw [sema_plain_e, bS]; exact fin _
          · exact fin _
        · rw [if_neg z2, sema_both_j1_e]
          exact ⟨_, e2, rfl, fun h => absurd h z2⟩
      · rw [if_pos z]
        exact ⟨_, e1, rfl, fun h => absurd h z⟩
    · show ∃ od e, sema_handle (SemaE_run n) p d B x = some (od, e) ∧ _
      obtain ⟨t, e, h1, h2⟩ := ih.expr k p d B x H hx (by omega)
      rw [sema_handle, h1, bS]
      by_cases z : e = 0
      · rw [if_neg (by simpa using z), sema_plain_e, bS]
        by_cases q : t.Kind ≠ 3
        · rw [if_pos (decide_eq_true q)]; exact ⟨none, 9, rfl, fun h => absurd h (by decide)⟩
        · obtain ⟨f, f1, f2⟩ := (h2 z).1 (Decidable.not_not.1 q)
          rw [if_neg (by simpa using q)]
          exact ⟨_, 0, rfl, fun _ => ⟨⟨f, t.Gen, f1, f1, f2⟩, (h2 z).2⟩⟩
      · rw [if_pos z]
        exact ⟨none, e, rfl, fun h => absurd h z⟩
    · show ∃ t e, sema_expr n (SemaE_run n) p d B x = some (t, e) ∧ _
      cases k with
      | zero => cases hx
      | succ k =>
      obtain ⟨k1, k24, hk, hks⟩ := hx
      have kl : kidN x.Kind = 1 → ∃ a, x.Kids = [a] ∧ OkE k a := fun h => by
        obtain ⟨a, ha⟩ := one (l := x.Kids) (by have := hk.eq (by omega); omega)
        exact ⟨a, ha, hks a (by simp [ha])⟩
      have kl2 : kidN x.Kind = 2 → ∃ a b, x.Kids = [a, b] ∧ OkE k a ∧ OkE k b := fun h => by
        obtain ⟨a, b, ha⟩ := two (l := x.Kids) (by have := hk.eq (by omega); omega)
        exact ⟨a, b, ha, hks a (by simp [ha]), hks b (by simp [ha])⟩
      have kl0 : kidN x.Kind = 0 → x.Kids = [] := fun h => List.length_eq_zero_iff.1 (by have := hk.eq (by omega); omega)
      have ca : x.Kind ≠ 19 → x.Kind ≠ 20 → x.Kind ≠ 22 → x.Kind ≠ 3 → (∀ y ∈ x.Kids, CallsV p (Vars B) k y) → CallsV p (Vars B) (k + 1) x := fun h1 h2 h3 h5 h4 => ⟨fun h => absurd h h1, fun h => absurd h h3, fun h => absurd h h2, fun h => absurd h h5, h4⟩
      rw [sema_expr]
      by_cases c1 : x.Kind = 1
      · rw [if_pos c1]
        exact ⟨_, 0, rfl, fun _ => ⟨.of (by decide), ca (by omega) (by omega) (by omega) (by omega) (by rw [kl0 (by rw [c1]; rfl)]; simp)⟩⟩
      rw [if_neg c1]
      by_cases c2 : x.Kind = 2
      · rw [if_pos c2]
        exact ⟨_, 0, rfl, fun _ => ⟨.of (by decide), ca (by omega) (by omega) (by omega) (by omega) (by rw [kl0 (by rw [c2]; rfl)]; simp)⟩⟩
      rw [if_neg c2]
      by_cases c3 : x.Kind = 3
      · obtain ⟨t, b, h1, h2⟩ := lookV H.sc H.bl n (by omega) d x.Name
        rw [if_pos c3, h1, bS]
        cases b with
        | true => exact ⟨t, 0, rfl, fun _ => ⟨(h2 rfl).1, ⟨fun h => by omega, fun h => by omega, fun h => by omega, fun _ => (h2 rfl).2, by rw [kl0 (by rw [c3]; rfl)]; simp⟩⟩⟩
        | false => exact ⟨_, 7, rfl, fun h => absurd h (by decide)⟩
      rw [if_neg c3]
      by_cases c4 : x.Kind = 4
      · obtain ⟨a, ha, ho⟩ := kl (by rw [c4]; rfl)
        obtain ⟨e, e1, e2⟩ := ih.typed k p d B a ⟨1, []⟩ H ho (by omega)
        have k0 : at_ x.Kids 0 = some a := by rw [ha]; rfl
        rw [if_pos c4, sema_num, bS, k0, bS, bS, e1, bS]
        exact ⟨_, e, rfl, fun hz => ⟨.of (by decide), ca (by omega) (by omega) (by omega) (by omega) (by rw [ha]; simpa using e2 hz)⟩⟩
      rw [if_neg c4]
      by_cases c5 : x.Kind = 5
      · obtain ⟨a, ha, ho⟩ := kl (by rw [c5]; rfl)
        obtain ⟨e, e1, e2⟩ := ih.typed k p d B a ⟨2, []⟩ H ho (by omega)
        have k0 : at_ x.Kids 0 = some a := by rw [ha]; rfl
        rw [if_pos c5, sema_boolean, bS, k0, bS, bS, e1, bS]
        exact ⟨_, e, rfl, fun hz => ⟨.of (by decide), ca (by omega) (by omega) (by omega) (by omega) (by rw [ha]; simpa using e2 hz)⟩⟩
      rw [if_neg c5]
      have J3 : ∀ b, (b = true ↔ x.Kind = 11 ∨ x.Kind = 12) → ∃ t e, sema_expr_j3 (SemaE_run n) x p d B b = some (t, e) ∧ (e = 0 → TyOk p t ∧ CallsV p (Vars B) (k + 1) x) := by
        intro b hb
        rw [sema_expr_j3]
        by_cases q : b = true
        · have c := hb.1 q
          obtain ⟨a, a', ha, o1, o2⟩ := kl2 (by rcases c with c | c <;> rw [c] <;> rfl)
          obtain ⟨t, e, h1, h2⟩ := ih.both k p d B x a a' H ha o1 o2 (by omega)
          rw [if_pos q, h1, bS, sema_boolean, bS]
          exact ⟨_, e, rfl, fun hz => ⟨.of (by decide), ca (by omega) (by omega) (by omega) (by omega) (by rw [ha]; simpa using h2 hz)⟩⟩
        rw [if_neg q]
        have q1 : x.Kind ≠ 11 := fun h => q (hb.2 (.inl h))
        have q2 : x.Kind ≠ 12 := fun h => q (hb.2 (.inr h))
        by_cases c19 : x.Kind = 19
        · obtain ⟨od, e, h1, h2⟩ := ih.args k p d B x 2 H hks hk.le (.inl rfl) (by omega)
          rw [if_pos c19, h1, bS]
          by_cases z : e = 0
          · obtain ⟨f, rfl, g1, g2, g3⟩ := h2 z
            rw [if_neg (by simpa using z)]
            simp only [bS]
            rw [sema_bare_e, bS]
            exact ⟨_, 0, rfl, fun _ => ⟨.of (by rw [bareT_kind]; exact (H.pg _ _ g1).ty (by omega)), ⟨fun _ => ⟨f, g1, g2⟩, fun h => by omega, fun h => by omega, fun h => by omega, g3⟩⟩⟩
          · rw [if_pos z]
            exact ⟨_, e, rfl, fun h => absurd h z⟩
        rw [if_neg c19]
        by_cases c20 : x.Kind = 20
        · rw [if_pos c20, sema_find_e, bS]
          by_cases c : isK (mget p.named x.Name) 1 = true
          · obtain ⟨f, hf, fk⟩ := isK_t c
            rw [if_pos c, hf]
            simp only [bS]
            rw [sema_bare_e, bS]
            exact ⟨_, 0, rfl, fun _ => ⟨.of (by rw [bareT_kind]; exact (H.pg _ _ hf).ty (by omega)), ⟨fun h => by omega, fun h => by omega, fun _ => ⟨f, hf, fk⟩, fun h => by omega, by rw [kl0 (by rw [c20]; rfl)]; simp⟩⟩⟩
          · rw [if_neg c]
            exact ⟨_, 7, rfl, fun h => absurd h (by decide)⟩
        rw [if_neg c20]
        by_cases c21 : x.Kind = 21
        · obtain ⟨a, ha, ho⟩ := kl (by rw [c21]; rfl)
          obtain ⟨e, e1, e2⟩ := ih.typed k p d B a d.Typ H ho (by omega)
          have k0 : at_ x.Kids 0 = some a := by rw [ha]; rfl
          rw [if_pos c21]
          by_cases cd : d.Kind = 3
          · rw [if_neg (by simpa using cd), sema_bare_e, bS, k0, bS, e1, bS]
            exact ⟨_, e, rfl, fun hz => ⟨.of (by show (bareT d.Takes).Kind ≠ 3; rw [bareT_kind]; exact H.hd.tk cd), ca (by omega) (by omega) (by omega) (by omega) (by rw [ha]; simpa using e2 hz)⟩⟩
          · rw [if_pos cd]
            exact ⟨_, 8, rfl, fun h => absurd h (by decide)⟩
        rw [if_neg c21]
        by_cases c22 : x.Kind = 22
        · obtain ⟨od, e, h1, h2⟩ := ih.args k p d B x 3 H hks hk.le (.inr rfl) (by omega)
          rw [if_pos c22, h1, bS]
          refine ⟨_, e, rfl, fun hz => ?_⟩
          obtain ⟨f, -, g1, g2, g3⟩ := h2 hz
          exact ⟨fun _ => ⟨f, g1, g2⟩, ⟨fun h => by omega, fun _ => ⟨f, g1, g2⟩, fun h => by omega, fun h => by omega, g3⟩⟩
        rw [if_neg c22]
        by_cases c23 : x.Kind = 23
        · obtain ⟨a, a', ha, o1, o2⟩ := kl2 (by rw [c23]; rfl)
          obtain ⟨od, e, h1, h2⟩ := ih.handle k p d B a H o1 (by omega)
          have k0 : at_ x.Kids 0 = some a := by rw [ha]; rfl
          have k1 : at_ x.Kids 1 = some a' := by rw [ha]; rfl
          rw [if_pos c23, k0, bS, h1, bS]
          by_cases z : e = 0
          · obtain ⟨⟨f, g, rfl, g1, g2⟩, g3⟩ := h2 z
            obtain ⟨e', r1, r2⟩ := ih.typed k p d B a' f.Takes H o2 (by omega)
            rw [if_neg (by simpa using z)]
            simp only [bS]
            rw [sema_bare_e, bS, k1, bS, r1, bS]
            exact ⟨_, e', rfl, fun hz => ⟨.of (by show (bareT f.Typ).Kind ≠ 3; rw [bareT_kind]; exact (H.pg _ _ g1).ty (by omega)), ca (by omega) (by omega) (by omega) (by omega) (by rw [ha]; simpa using ⟨g3, r2 hz⟩)⟩⟩
          · rw [if_pos z]
            exact ⟨_, e, rfl, fun h => absurd h z⟩
        rw [if_neg c23]
        by_cases c24 : x.Kind = 24
        · obtain ⟨a, ha, ho⟩ := kl (by rw [c24]; rfl)
          obtain ⟨od, e, h1, h2⟩ := ih.handle k p d B a H ho (by omega)
          have k0 : at_ x.Kids 0 = some a := by rw [ha]; rfl
          rw [if_pos c24, k0, bS, h1, bS, sema_boolean, bS]
          exact ⟨_, e, rfl, fun hz => ⟨.of (by decide), ca (by omega) (by omega) (by omega) (by omega) (by rw [ha]; simpa using (h2 hz).2)⟩⟩
        rw [if_neg c24]
        have L : ∀ (i1 i2 : Int) (s1 s2 : List UInt8) (m i : Nat), i ≤ x.Kids.length → x.Kids.length < m + i → ∃ e, sema_expr_l1 (SemaE_run n) x p d B i1 s1 i2 s2 m i = some (⟨i2, s2⟩, e) ∧ (e = 0 → ∀ y ∈ x.Kids.drop i, CallsV p (Vars B) k y) := by
          intro i1 i2 s1 s2 m
          induction m with
          | zero => intro i h1 h2; omega
          | succ m ihm =>
            intro i h1 h2
            rw [sema_expr_l1]
            by_cases c : i < x.Kids.length
            · have := hk.le
              obtain ⟨e, e1, e2⟩ := ih.typed k p d B x.Kids[i] ⟨i1, s1⟩ H (hks _ (List.getElem_mem _)) (by omega)
              rw [if_pos (by omega), at_nat, List.getElem?_eq_getElem c, bS, e1, bS]
              by_cases z : e = 0
              · rw [if_neg (by simpa using z), i64_ok (by omega), bS]
                obtain ⟨e', r1, r2⟩ := ihm (i + 1) c (by omega)
                refine ⟨e', r1, fun hz y hy => ?_⟩
                rw [List.drop_eq_getElem_cons c] at hy
                rcases List.mem_cons.1 hy with rfl | hy
                · exact e2 z
                · exact r2 hz y hy
              · rw [if_pos z]; exact ⟨e, rfl, fun h => absurd h z⟩
            · rw [if_neg (by omega), List.drop_eq_nil_of_le (by omega)]
              exact ⟨0, rfl, fun _ => by simp⟩
        have J6 : ∀ (i1 i2 : Int) (s1 s2 : List UInt8), i2 ≠ 3 → ∃ t e, sema_expr_j6 (SemaE_run n) x p d B i1 s1 i2 s2 = some (t, e) ∧ (e = 0 → TyOk p t ∧ CallsV p (Vars B) (k + 1) x) := by
          intro i1 i2 s1 s2 h
          obtain ⟨e, h1, h2⟩ := L i1 i2 s1 s2 (x.Kids.length + 1) 0 (by omega) (by omega)
          exact ⟨_, e, h1, fun hz => ⟨.of h, ca (by omega) (by omega) (by omega) (by omega) (by simpa using h2 hz)⟩⟩
        rw [sema_num, bS, bS, sema_boolean]
        simp only [bS]
        split
        · exact J6 _ _ _ _ (by decide)
        · split
          · exact J6 _ _ _ _ (by decide)
          · exact J6 _ _ _ _ (by decide)
      split
      · rename_i h; exact J3 _ (by simp [h])
      · rename_i h; exact J3 _ (by simp [h])
structure SemaSV (n : Nat) : Prop where
  stats : ∀ (k : Nat) (p : TSp) (d : TDef) (B : Bl) (l : List TStat), EH p d B → l.length ≤ 50 → (∀ y ∈ l, OkS k y) → B.length + k ≤ 90 → 5 * k + 130 ≤ n →
    ∃ e, (SemaS_run n).sema_stats p d B l = some (e, B) ∧ (e = 0 → LSV (CSV p k) (Vars B) l)
  stat : ∀ (k : Nat) (p : TSp) (d : TDef) (B : Bl) (s : TStat), EH p d B → 0 < B.length → OkS k s → B.length + k ≤ 91 → 5 * k + 129 ≤ n →
    ∃ e B', (SemaS_run n).sema_stat p d B s = some (e, B') ∧ B'.length = B.length ∧ B'.take (B.length - 1) = B.take (B.length - 1) ∧ ScOk p B' ∧ (e = 0 → CSV p k (Vars B) s) ∧ (Vars B' → Vars B ∨ s.Kind = 1)
theorem semaSV_t : ∀ n, SemaSV n := by
  intro n
  induction n with
  | zero => exact ⟨fun _ _ _ _ _ _ _ _ _ h => by omega, fun _ _ _ _ _ _ _ _ _ h => by omega⟩
  | succ n ih =>
    refine ⟨fun k p d B l H hl hx hB hn => ?_, fun k p d B s H h0 hx hB hn => ?_⟩
    · show ∃ e, sema_stats (SemaS_run n) p d B l = some (e, B) ∧ _
      rw [sema_stats, app, if_pos (by simp; omega), bS, sema_stats_j1]
      have L : ∀ (m i : Nat) (B' : Bl), i ≤ l.length → l.length < m + i → B'.length = B.length + 1 → B'.take B.length = B → ScOk p B' →
          ∃ e, sema_stats_l1 (SemaS_run n) l p d m i B' = some (e, B) ∧ (e = 0 → LSV (CSV p k) (Vars B') (l.drop i)) := by
        intro m
        induction m with
        | zero => intro i B' h1 h2; omega
        | succ m ihm =>
          intro i B' h1 h2 g1 g2 g3
          rw [sema_stats_l1]
          have pop : ∀ C : Bl, C.length = B.length + 1 → C.take B.length = B → sema_pop p d C = some B := fun C e1 e2 => by
            rw [sema_pop_t p d C (by omega) (by omega), e1, Nat.add_sub_cancel, e2]
          by_cases c : i < l.length
          · obtain ⟨e, B2, r1, r2, r3, r4, r5, r6⟩ := ih.stat k p d B' l[i] ⟨H.pg, H.hd, g3, by omega⟩ (by omega) (hx _ (List.getElem_mem _)) (by omega) (by omega)
            rw [g1, Nat.add_sub_cancel] at r3
            rw [g1] at r2
            have e2 : B2.take B.length = B := r3.trans g2
            rw [if_pos (by omega), at_nat, List.getElem?_eq_getElem c, bS, r1, bS]
            by_cases z : e = 0
            · rw [if_neg (by simpa using z), i64_ok (by omega), bS]
              obtain ⟨e', s1, s2⟩ := ihm (i + 1) B2 c (by omega) r2 e2 r4
              refine ⟨e', s1, fun hz => ?_⟩
              rw [List.drop_eq_getElem_cons c]
              exact ⟨r5 z, LSV.mono (C := CSV p k) (fun _ _ _ h => CSV.mono h) r6 (s2 hz)⟩
            · rw [if_pos z]
              simp only []
              rw [pop B2 r2 e2, bS]
              exact ⟨e, rfl, fun h => absurd h z⟩
          · rw [if_neg (by omega), pop B' g1 g2, bS, List.drop_eq_nil_of_le (by omega)]
            exact ⟨0, rfl, fun _ => trivial⟩
      have := L (l.length + 1) 0 (B ++ [[]]) (by omega) (by omega) (by simp) (by simp) (fun m hm k' t ht => by
        rcases List.mem_append.1 hm with hm | hm
        · exact H.sc m hm k' t ht
        · rw [List.mem_singleton.1 hm] at ht; cases ht)
      obtain ⟨e, e1, e2⟩ := this
      rw [List.drop_zero] at e2
      refine ⟨e, e1, fun hz => LSV.mono (C := CSV p k) (fun _ _ _ h => CSV.mono h) (fun ⟨m, hm, hne⟩ => ?_) (e2 hz)⟩
      rcases List.mem_append.1 hm with hm | hm
      · exact ⟨m, hm, hne⟩
      · exact absurd (List.mem_singleton.1 hm) hne
    · show ∃ e B', sema_stat n (SemaS_run n) p d B s = some (e, B') ∧ _
      cases k with
      | zero => cases hx
      | succ k =>
      obtain ⟨k1, k9, hX, hb, he⟩ := hx
      have tt := (semaV_t n).typed k p d B s.X
      have te := (semaV_t n).expr k p d B s.X
      have same : ∀ e : Int, (e = 0 → CSV p (k + 1) (Vars B) s) → ∀ o : Option (Int × Bl), o = some (e, B) → ∃ e B', o = some (e, B') ∧ B'.length = B.length ∧ B'.take (B.length - 1) = B.take (B.length - 1) ∧ ScOk p B' ∧ (e = 0 → CSV p (k + 1) (Vars B) s) ∧ (Vars B' → Vars B ∨ s.Kind = 1) :=
        fun e h o ho => ⟨e, B, ho, rfl, rfl, H.sc, h, .inl⟩
      have cs : s.Kind ≠ 3 → s.Kind ≠ 4 → s.Kind ≠ 7 → (s.Kind = 2 → Vars B) → (s.Kind ≠ 6 → CallsV p (Vars B) k s.X) → CSV p (k + 1) (Vars B) s := fun h3 h4 h7 h2 h => ⟨h, fun h => by omega, fun h => absurd h h3, fun h => absurd h h7, h2⟩
      rw [sema_stat]
      by_cases c1 : s.Kind = 1
      · obtain ⟨t, e, h1, h2⟩ := te H (hX (by omega)) (by omega)
        rw [if_pos c1, h1, bS]
        by_cases z : e = 0
        · obtain ⟨t', b, g1, g2⟩ := lookV H.sc H.bl n (by omega) d s.Name
          rw [if_neg (by simpa using z), g1, bS]
          cases b with
          | true => exact same 7 (fun h => absurd h (by decide)) _ rfl
          | false =>
            have hlt : B.length - 1 < B.length := by omega
            have e1 : (B.length : Int) - 1 = ((B.length - 1 : Nat) : Int) := by omega
            rw [if_neg (by simp), i64_ok (by omega), bS, e1, at_nat, List.getElem?_eq_getElem hlt, bS, sema_stat_j1]
            refine ⟨0, _, rfl, by simp, ?_, fun m hm k' u hu => ?_, fun _ => cs (by omega) (by omega) (by omega) (fun h => by omega) fun _ => (h2 z).2, fun _ => .inr c1⟩
            · simp [List.take_set_of_le]
            · rcases List.mem_or_eq_of_mem_set hm with hm | rfl
              · exact H.sc m hm k' u hu
              · rw [mget_mput] at hu
                split at hu
                · obtain rfl := Option.some.inj hu
                  exact (h2 z).1
                · exact H.sc _ (List.getElem_mem _) k' u hu
        · rw [if_pos z]
          exact same e (fun h => absurd h z) _ rfl
      rw [if_neg c1]
      by_cases c2 : s.Kind = 2
      · obtain ⟨t', b, g1, g2⟩ := lookV H.sc H.bl n (by omega) d s.Name
        rw [if_pos c2, g1, bS]
        cases b with
        | false => exact same 7 (fun h => absurd h (by decide)) _ rfl
        | true =>
          obtain ⟨e, h1, h2⟩ := tt t' H (hX (by omega)) (by omega)
          rw [if_pos rfl, h1, bS]
          exact same e (fun hz => cs (by omega) (by omega) (by omega) (fun _ => (g2 rfl).2) fun _ => h2 hz) _ rfl
      rw [if_neg c2]
      have J2 : ∀ b, (b = true ↔ s.Kind = 3 ∨ s.Kind = 4) → ∃ e B', sema_stat_j2 n (SemaS_run n) s p d B b = some (e, B') ∧ B'.length = B.length ∧ B'.take (B.length - 1) = B.take (B.length - 1) ∧ ScOk p B' ∧ (e = 0 → CSV p (k + 1) (Vars B) s) ∧ (Vars B' → Vars B ∨ s.Kind = 1) := by
        intro b hb'
        rw [sema_stat_j2]
        by_cases q : b = true
        · have c := hb'.1 q
          obtain ⟨e, h1, h2⟩ := tt ⟨2, []⟩ H (hX (by omega)) (by omega)
          rw [if_pos q, sema_boolean, bS, h1, bS]
          by_cases z : e = 0
          · rw [if_neg (by simpa using z)]
            obtain ⟨e2, g1, g2⟩ := ih.stats k p d B s.Body H (hb c).1 (hb c).2 (by omega) (by omega)
            rw [g1, bS]
            by_cases z2 : e2 = 0
            · rw [if_neg (by simpa using z2)]
              by_cases c4 : s.Kind = 4
              · rw [decide_eq_true c4]
                exact same e2 (fun _ => ⟨fun _ => h2 z, fun _ => g2 z2, fun h => by omega, fun h => by omega, fun h => by omega⟩) _ rfl
              · have c3 : s.Kind = 3 := by omega
                obtain ⟨e3, f1, f2⟩ := ih.stats k p d B s.Else H (he c3).1 (he c3).2 (by omega) (by omega)
                rw [decide_eq_false c4, sema_stat_j3, if_neg (by decide)]
                simp only []
                rw [f1, bS]
                exact same e3 (fun hz => ⟨fun _ => h2 z, fun _ => g2 z2, fun _ => f2 hz, fun h => by omega, fun h => by omega⟩) _ rfl
            · rw [if_pos z2]
              exact same e2 (fun h => absurd h z2) _ rfl
          · rw [if_pos z]
            exact same e (fun h => absurd h z) _ rfl
        rw [if_neg q]
        have q3 : s.Kind ≠ 3 := fun h => q (hb'.2 (.inl h))
        have q4 : s.Kind ≠ 4 := fun h => q (hb'.2 (.inr h))
        by_cases c5 : s.Kind = 5
        · rw [if_pos c5]
          split
          · exact same 8 (fun h => absurd h (by decide)) _ rfl
          · obtain ⟨e, h1, h2⟩ := tt d.Typ H (hX (by omega)) (by omega)
            rw [h1, bS]
            exact same e (fun hz => cs q3 q4 (by omega) (fun h => absurd h c2) fun _ => h2 hz) _ rfl
        rw [if_neg c5]
        by_cases c6 : s.Kind = 6
        · rw [if_pos c6]
          split
          · exact same 8 (fun h => absurd h (by decide)) _ rfl
          · exact same 0 (fun hz => cs q3 q4 (by omega) (fun h => absurd h c2) fun h => absurd c6 h) _ rfl
        rw [if_neg c6]
        by_cases c7 : s.Kind = 7
        · rw [if_pos c7, sema_find_e, bS]
          by_cases c : isK (mget p.named s.Name) 1 = true
          · obtain ⟨f, hf, fk⟩ := isK_t c
            obtain ⟨e, h1, h2⟩ := tt f.Typ H (hX (by omega)) (by omega)
            rw [if_pos c, hf]
            simp only [bS]
            rw [h1, bS]
            exact same e (fun hz => ⟨fun _ => h2 hz, fun h => by omega, fun h => by omega, fun _ => ⟨f, hf, fk⟩, fun h => by omega⟩) _ rfl
          · rw [if_neg c]
            exact same 7 (fun h => absurd h (by decide)) _ rfl
        rw [if_neg c7]
        by_cases c8 : s.Kind = 8
        · obtain ⟨t, e, h1, h2⟩ := te H (hX (by omega)) (by omega)
          rw [if_pos c8, h1, bS]
          by_cases z : e = 0
          · rw [if_pos z, sema_plain_e, bS, sema_stat_j4_e]
            exact same _ (fun _ => cs q3 q4 (by omega) (fun h => absurd h c2) fun _ => (h2 z).2) _ rfl
          · rw [if_neg z, sema_stat_j4_e]
            exact same e (fun h => absurd h z) _ rfl
        rw [if_neg c8]
        by_cases c9 : s.Kind = 9
        · obtain ⟨t, e, h1, h2⟩ := te H (hX (by omega)) (by omega)
          rw [if_pos c9, h1, bS]
          exact same e (fun hz => cs q3 q4 (by omega) (fun h => absurd h c2) fun _ => (h2 hz).2) _ rfl
        · omega
      split
      · rename_i h; exact J2 _ (by simp [h])
      · rename_i h; exact J2 _ (by simp [h])
theorem bodyV (fu : Nat) (hf : 500 ≤ fu) (p : TSp) (d : TDef) (hp : Pg p) (hh : HeadOk p d) (hd : OkD d) : ∃ e, sema_body fu p d = some e ∧ (e = 0 → d.Kind ≠ 1 → LSV (CSV p 39) (d.Kind ≠ 4 ∧ d.Params ≠ []) d.Body) := by
  rw [sema_body]
  by_cases c1 : d.Kind = 1
  · rw [if_pos c1]; exact ⟨0, rfl, fun _ h => absurd c1 h⟩
  · rw [if_neg c1]
    have J1 : ∀ B : Bl, B.length = 1 → ScOk p B → (Vars B → d.Kind ≠ 4 ∧ d.Params ≠ []) → ∃ e, sema_body_j1 fu p d B = some e ∧ (e = 0 → d.Kind ≠ 1 → LSV (CSV p 39) (d.Kind ≠ 4 ∧ d.Params ≠ []) d.Body) := by
      intro B h1 h2 h3
      obtain ⟨e, r1, r2⟩ := (semaSV_t fu).stats 39 p d B d.Body ⟨hp, hh, h2, by omega⟩ (hd.bl c1) (hd.bo c1) (by omega) (by omega)
      rw [sema_body_j1, r1, bS]
      exact ⟨e, rfl, fun hz _ => LSV.mono (C := CSV p 39) (fun _ _ _ h => CSV.mono h) h3 (r2 hz)⟩
    by_cases c4 : d.Kind = 4
    · rw [if_neg (by simpa using c4)]
      exact J1 _ rfl (fun m hm k t ht => by rw [List.mem_singleton.1 hm] at ht; cases ht) (fun ⟨m, hm, hne⟩ => absurd (List.mem_singleton.1 hm) hne)
    · rw [if_pos c4]
      have k23 : d.Kind = 2 ∨ d.Kind = 3 := by have := hd.k1; have := hd.k4; omega
      have hpl := hh.pl k23
      have L : ∀ (m i : Nat) (B : Bl), i ≤ d.Params.length → d.Params.length < m + i → B.length = 1 → ScOk p B → (Vars B → d.Kind ≠ 4 ∧ d.Params ≠ []) → ∃ e, sema_body_l1 fu p d m i B = some e ∧ (e = 0 → d.Kind ≠ 1 → LSV (CSV p 39) (d.Kind ≠ 4 ∧ d.Params ≠ []) d.Body) := by
        intro m
        induction m with
        | zero => intro i B h1 h2; omega
        | succ m ihm =>
          intro i B h1 h2 g1 g2 g3
          rw [sema_body_l1]
          by_cases c : i < d.Params.length
          · have h0 : 0 < B.length := by omega
            rw [if_pos (by omega), at_nat, List.getElem?_eq_getElem c, bS, at_0 h0, bS, sema_bare_e, bS, sema_body_j2, i64_ok (by omega), bS]
            refine ihm (i + 1) _ c (by omega) (by simpa using g1) (fun m' hm' k t ht => ?_) fun _ => ⟨c4, fun e => by rw [e] at c; exact absurd c (by simp)⟩
            rcases List.mem_or_eq_of_mem_set hm' with hm' | rfl
            · exact g2 m' hm' k t ht
            · rw [mget_mput] at ht
              split at ht
              · obtain rfl := Option.some.inj ht
                exact (hh.ps k23 _ (List.getElem_mem _)).bare
              · exact g2 _ (List.getElem_mem _) k t ht
          · rw [if_neg (by omega)]
            exact J1 B g1 g2 g3
      exact L (d.Params.length + 1) 0 _ (by omega) (by omega) rfl (fun m hm k t ht => by rw [List.mem_singleton.1 hm] at ht; cases ht) (fun ⟨m, hm, hne⟩ => absurd (List.mem_singleton.1 hm) hne)
end Go.Y
namespace Go.Y
open Go.Wk Go.Xt
abbrev Nm := List UInt8
def cE : Nat → TExpr → List Nm
  | 0, _ => []
  | k + 1, x => (if x.Kind = 19 ∨ x.Kind = 22 then [x.Name] else []) ++ (x.Kids.map (cE k)).flatten
def rE : Nat → TExpr → List Nm
  | 0, _ => []
  | k + 1, x => (if x.Kind = 20 then [x.Name] else []) ++ (x.Kids.map (rE k)).flatten
def cS : Nat → TStat → List Nm
  | 0, _ => []
  | k + 1, s => (if s.Kind = 6 then [] else cE k s.X) ++ (if s.Kind = 3 ∨ s.Kind = 4 then (s.Body.map (cS k)).flatten else []) ++ (if s.Kind = 3 then (s.Else.map (cS k)).flatten else [])
def rS : Nat → TStat → List Nm
  | 0, _ => []
  | k + 1, s => (if s.Kind = 6 then [] else rE k s.X) ++ (if s.Kind = 3 ∨ s.Kind = 4 then (s.Body.map (rS k)).flatten else []) ++ (if s.Kind = 3 then (s.Else.map (rS k)).flatten else [])
def sS : Nat → TStat → List Nm
  | 0, _ => []
  | k + 1, s => (if s.Kind = 7 then [s.Name] else []) ++ (if s.Kind = 3 ∨ s.Kind = 4 then (s.Body.map (sS k)).flatten else []) ++ (if s.Kind = 3 then (s.Else.map (sS k)).flatten else [])
theorem flat_le {α β : Type} (f : α → List β) (g : α → Nat) (h : ∀ x, (f x).length ≤ g x) : ∀ l : List α, (l.map f).flatten.length ≤ (l.map g).sum
  | [] => by simp
  | x :: l => by
    have := flat_le f g h l
    have := h x
    simp only [List.map_cons, List.flatten_cons, List.length_append, List.sum_cons]
    omega
theorem le_sum {α : Type} (g : α → Nat) : ∀ (l : List α) (x : α), x ∈ l → g x ≤ (l.map g).sum
  | y :: l, x, h => by
    rw [List.map_cons, List.sum_cons]
    rcases List.mem_cons.1 h with rfl | h
    · omega
    · have := le_sum g l x h; omega
theorem cE_le : ∀ (k : Nat) (x : TExpr), (cE k x).length ≤ nE k x
  | 0, x => by simp [cE]
  | k + 1, x => by
    have := flat_le (cE k) (nE k) (cE_le k) x.Kids
    rw [cE, nE, List.length_append]
    split <;> simp only [List.length_cons, List.length_nil] <;> omega
theorem rE_le : ∀ (k : Nat) (x : TExpr), (rE k x).length ≤ nE k x
  | 0, x => by simp [rE]
  | k + 1, x => by
    have := flat_le (rE k) (nE k) (rE_le k) x.Kids
    rw [rE, nE, List.length_append]
    split <;> simp only [List.length_cons, List.length_nil] <;> omega
theorem cS_le : ∀ (k : Nat) (x : TStat), (cS k x).length ≤ nS k x
  | 0, x => by simp [cS]
  | k + 1, x => by
    have := flat_le (cS k) (nS k) (cS_le k) x.Body
    have := flat_le (cS k) (nS k) (cS_le k) x.Else
    have := cE_le k x.X
    rw [cS, nS, List.length_append, List.length_append]
    split <;> split <;> split <;> (try simp only [List.length_nil]) <;> omega
theorem rS_le : ∀ (k : Nat) (x : TStat), (rS k x).length ≤ nS k x
  | 0, x => by simp [rS]
  | k + 1, x => by
    have := flat_le (rS k) (nS k) (rS_le k) x.Body
    have := flat_le (rS k) (nS k) (rS_le k) x.Else
    have := rE_le k x.X
    rw [rS, nS, List.length_append, List.length_append]
    split <;> split <;> split <;> (try simp only [List.length_nil]) <;> omega
theorem sS_le : ∀ (k : Nat) (x : TStat), (sS k x).length ≤ nS k x
  | 0, x => by simp [sS]
  | k + 1, x => by
    have := flat_le (sS k) (nS k) (sS_le k) x.Body
    have := flat_le (sS k) (nS k) (sS_le k) x.Else
    rw [sS, nS, List.length_append, List.length_append]
    by_cases h7 : x.Kind = 7
    · rw [if_pos h7, if_neg (by omega), if_neg (by omega), if_neg (by omega), if_neg (by omega), if_neg (by omega)]
      simp
    · rw [if_neg h7]
      split <;> split <;> split <;> (try simp only [List.length_nil]) <;> omega
theorem app_ok {α : Type} {l xs : List α} (h : l.length + xs.length ≤ 4294967296) : app l xs = some (l ++ xs) := if_pos h
theorem uses_expr_t : ∀ (n k : Nat) (x : TExpr) (c s r : List Nm), k ≤ n → OkE k x → c.length + nE k x ≤ 1000000 → r.length + nE k x ≤ 1000000 → (SemaU_run n).uses_expr c s r x = some (c ++ cE k x, s, r ++ rE k x) := by
  intro n
  induction n with
  | zero => intro k x c s r h1 h2; obtain rfl : k = 0 := by omega
            cases h2
  | succ n ih =>
    intro k x c s r h1 h2 h3 h4
    cases k with
    | zero => cases h2
    | succ k =>
    obtain ⟨k1, k24, hk, hks⟩ := h2
    show uses_expr (SemaU_run n) c s r x = _
    have L : ∀ (m i : Nat) (c r : List Nm), i ≤ x.Kids.length → x.Kids.length < m + i → c.length + ((x.Kids.drop i).map (nE k)).sum ≤ 1000000 → r.length + ((x.Kids.drop i).map (nE k)).sum ≤ 1000000 →
        uses_expr_l1 (SemaU_run n) x m i c s r = some (c ++ ((x.Kids.drop i).map (cE k)).flatten, s, r ++ ((x.Kids.drop i).map (rE k)).flatten) := by
      intro m
      induction m with
      | zero => intro i c r h1 h2; omega
      | succ m ihm =>
        intro i c r g1 g2 g3 g4
        rw [uses_expr_l1]
        have hl := hk.le
        by_cases q : i < x.Kids.length
        · rw [List.drop_eq_getElem_cons q, List.map_cons, List.sum_cons] at g3 g4
          have b1 := cE_le k x.Kids[i]
          have b2 := rE_le k x.Kids[i]
          rw [if_pos (by omega), at_nat, List.getElem?_eq_getElem q, bS, ih k x.Kids[i] c s r (by omega) (hks _ (List.getElem_mem _)) (by omega) (by omega), bS, i64_ok (by omega), bS]
          refine (ihm (i + 1) _ _ q (by omega) (by simp only [List.length_append]; omega) (by simp only [List.length_append]; omega)).trans ?_
          rw [List.drop_eq_getElem_cons q]
          simp only [List.map_cons, List.flatten_cons, List.append_assoc]
        · rw [if_neg (by omega), List.drop_eq_nil_of_le (by omega)]
          simp
    have J1 : ∀ c r : List Nm, c.length + (x.Kids.map (nE k)).sum ≤ 1000000 → r.length + (x.Kids.map (nE k)).sum ≤ 1000000 → uses_expr_j1 (SemaU_run n) x s c r = some (c ++ (x.Kids.map (cE k)).flatten, s, r ++ (x.Kids.map (rE k)).flatten) := by
      intro c r g1 g2
      have := L (x.Kids.length + 1) 0 c r (by omega) (by omega) (by simpa using g1) (by simpa using g2)
      simpa [uses_expr_j1] using this
    rw [nE] at h3 h4
    have J2 : ∀ b, (b = true ↔ x.Kind = 19 ∨ x.Kind = 22) → uses_expr_j2 (SemaU_run n) c x s r b = some (c ++ cE (k + 1) x, s, r ++ rE (k + 1) x) := by
      intro b hb
      rw [uses_expr_j2, cE, rE]
      by_cases q : b = true
      · have := hb.1 q
        rw [if_pos q, app_ok (by simp; omega), bS, uses_expr_j3, J1 _ _ (by simp; omega) (by omega), if_pos this, if_neg (by omega)]
        simp
      · rw [if_neg q]
        have hn : ¬ (x.Kind = 19 ∨ x.Kind = 22) := fun h => q (hb.2 h)
        by_cases c20 : x.Kind = 20
        · rw [if_pos c20, app_ok (by simp; omega), bS, uses_expr_j4, J1 _ _ (by omega) (by simp; omega), if_neg hn, if_pos c20]
          simp
        · rw [if_neg c20, J1 _ _ (by omega) (by omega), if_neg hn, if_neg c20]
          simp
    rw [uses_expr]
    split
    · rename_i h; exact J2 _ (by simp [h])
    · rename_i h; exact J2 _ (by simp [h])
theorem uses_stats_t : ∀ (n k : Nat) (l : List TStat) (c s r : List Nm), k + 1 ≤ n → l.length ≤ 50 → (∀ y ∈ l, OkS k y) → c.length + (l.map (nS k)).sum ≤ 1000000 → s.length + (l.map (nS k)).sum ≤ 1000000 → r.length + (l.map (nS k)).sum ≤ 1000000 →
    (SemaV_run n).uses_stats c s r l = some (c ++ (l.map (cS k)).flatten, s ++ (l.map (sS k)).flatten, r ++ (l.map (rS k)).flatten) := by
  intro n
  induction n with
  | zero => intro k l c s r h1; omega
  | succ n ih =>
    intro k l c s r h1 hl hx h3 h4 h5
    show uses_stats n (SemaV_run n) c s r l = _
    have L : ∀ (m i : Nat) (c s r : List Nm), i ≤ l.length → l.length < m + i → c.length + ((l.drop i).map (nS k)).sum ≤ 1000000 → s.length + ((l.drop i).map (nS k)).sum ≤ 1000000 → r.length + ((l.drop i).map (nS k)).sum ≤ 1000000 →
        uses_stats_l1 n (SemaV_run n) l m i c s r = some (c ++ ((l.drop i).map (cS k)).flatten, s ++ ((l.drop i).map (sS k)).flatten, r ++ ((l.drop i).map (rS k)).flatten) := by
      intro m
      induction m with
      | zero => intro i c s r h1 h2; omega
      | succ m ihm =>
        intro i c s r g1 g2 g3 g4 g5
        rw [uses_stats_l1]
        by_cases q : i < l.length
        · rw [List.drop_eq_getElem_cons q, List.map_cons, List.sum_cons] at g3 g4 g5
          rw [if_pos (by omega), at_nat, List.getElem?_eq_getElem q, bS]
          have hy := hx _ (List.getElem_mem q)
          have b1 := cS_le k l[i]
          have b2 := sS_le k l[i]
          have b3 := rS_le k l[i]
          have nx := fun c' s' r' (e1 : c' = c ++ cS k l[i]) (e2 : s' = s ++ sS k l[i]) (e3 : r' = r ++ rS k l[i]) =>
            (ihm (i + 1) c' s' r' q (by omega) (by rw [e1, List.length_append]; omega) (by rw [e2, List.length_append]; omega) (by rw [e3, List.length_append]; omega)).trans
              (show _ = some (c ++ ((l.drop i).map (cS k)).flatten, s ++ ((l.drop i).map (sS k)).flatten, r ++ ((l.drop i).map (rS k)).flatten) by
                rw [List.drop_eq_getElem_cons q, e1, e2, e3]
                simp only [List.map_cons, List.flatten_cons, List.append_assoc])
          generalize l[i] = y at *
          cases k with
          | zero => cases hy
          | succ k =>
          obtain ⟨k1, k9, oX, oB, oE⟩ := hy
          rw [nS] at g3 g4 g5
          rw [cS] at b1 nx
          rw [sS] at b2 nx
          rw [rS] at b3 nx
          have J5 : ∀ c' s' r', (y.Kind = 3 → c'.length + (y.Else.map (nS k)).sum ≤ 1000000 ∧ s'.length + (y.Else.map (nS k)).sum ≤ 1000000 ∧ r'.length + (y.Else.map (nS k)).sum ≤ 1000000) →
              c' = c ++ ((if y.Kind = 6 then [] else cE k y.X) ++ (if y.Kind = 3 ∨ y.Kind = 4 then (y.Body.map (cS k)).flatten else [])) → s' = s ++ ((if y.Kind = 7 then [y.Name] else []) ++ (if y.Kind = 3 ∨ y.Kind = 4 then (y.Body.map (sS k)).flatten else [])) →
              r' = r ++ ((if y.Kind = 6 then [] else rE k y.X) ++ (if y.Kind = 3 ∨ y.Kind = 4 then (y.Body.map (rS k)).flatten else [])) →
              uses_stats_j5 (SemaV_run n) i y (uses_stats_l1 n (SemaV_run n) l m) c' s' r' = some (c ++ ((l.drop i).map (cS (k + 1))).flatten, s ++ ((l.drop i).map (sS (k + 1))).flatten, r ++ ((l.drop i).map (rS (k + 1))).flatten) := by
            intro c' s' r' hb e1 e2 e3
            rw [uses_stats_j5]
            by_cases c3 : y.Kind = 3
            · obtain ⟨z1, z2, z3⟩ := hb c3
              rw [if_pos c3, ih k y.Else c' s' r' (by omega) (oE c3).1 (oE c3).2 z1 z2 z3, bS, i64_ok (by omega), bS]
              refine nx _ _ _ ?_ ?_ ?_
              · rw [e1]; simp only [if_pos c3, List.append_assoc]
              · rw [e2]; simp only [if_pos c3, List.append_assoc]
              · rw [e3]; simp only [if_pos c3, List.append_assoc]
            · rw [if_neg c3, i64_ok (by omega), bS]
              refine nx _ _ _ ?_ ?_ ?_
              · rw [e1]; simp only [if_neg c3, List.append_nil]
              · rw [e2]; simp only [if_neg c3, List.append_nil]
              · rw [e3]; simp only [if_neg c3, List.append_nil]
          have J4 : ∀ c' s' r' b, (b = true ↔ y.Kind = 3 ∨ y.Kind = 4) → c' = c ++ (if y.Kind = 6 then [] else cE k y.X) → s' = s ++ (if y.Kind = 7 then [y.Name] else []) → r' = r ++ (if y.Kind = 6 then [] else rE k y.X) →
              uses_stats_j4 (SemaV_run n) i y c' s' r' (uses_stats_l1 n (SemaV_run n) l m) b = some (c ++ ((l.drop i).map (cS (k + 1))).flatten, s ++ ((l.drop i).map (sS (k + 1))).flatten, r ++ ((l.drop i).map (rS (k + 1))).flatten) := by
            intro c' s' r' b hb e1 e2 e3
            rw [uses_stats_j4]
            have y1 := cE_le k y.X
            have y2 := rE_le k y.X
            have y3 := flat_le (cS k) (nS k) (cS_le k) y.Body
            have y4 := flat_le (sS k) (nS k) (sS_le k) y.Body
            have y5 := flat_le (rS k) (nS k) (rS_le k) y.Body
            by_cases q : b = true
            · have c34 := hb.1 q
              rw [if_neg (show y.Kind ≠ 6 by omega), if_pos c34] at g3 g4 g5
              rw [if_neg (show y.Kind ≠ 6 by omega)] at e1 e3
              rw [if_neg (show y.Kind ≠ 7 by omega)] at e2
              have l1 : c'.length = c.length + (cE k y.X).length := by rw [e1, List.length_append]
              have l2 : s'.length = s.length := by rw [e2]; simp
              have l3 : r'.length = r.length + (rE k y.X).length := by rw [e3, List.length_append]
              rw [if_pos q, ih k y.Body c' s' r' (by omega) (oB c34).1 (oB c34).2 (by omega) (by omega) (by omega), bS]
              refine J5 _ _ _ (fun h3 => ?_) ?_ ?_ ?_
              · rw [if_pos h3] at g3 g4 g5
                simp only [List.length_append]
                omega
              · rw [e1, if_neg (show y.Kind ≠ 6 by omega), if_pos c34, List.append_assoc]
              · rw [e2, if_neg (show y.Kind ≠ 7 by omega), if_pos c34, List.append_assoc]
              · rw [e3, if_neg (show y.Kind ≠ 6 by omega), if_pos c34, List.append_assoc]
            · have hn : ¬ (y.Kind = 3 ∨ y.Kind = 4) := fun h => q (hb.2 h)
              rw [if_neg q]
              refine J5 _ _ _ (fun h3 => absurd (.inl h3) hn) ?_ ?_ ?_
              · rw [e1, if_neg hn, List.append_nil]
              · rw [e2, if_neg hn, List.append_nil]
              · rw [e3, if_neg hn, List.append_nil]
          have J1 : ∀ s', s' = s ++ (if y.Kind = 7 then [y.Name] else []) → uses_stats_j1 n (SemaV_run n) i c r y (uses_stats_l1 n (SemaV_run n) l m) s' = some (c ++ ((l.drop i).map (cS (k + 1))).flatten, s ++ ((l.drop i).map (sS (k + 1))).flatten, r ++ ((l.drop i).map (rS (k + 1))).flatten) := by
            intro s' e2
            have J3 : ∀ c' r', c' = c ++ (if y.Kind = 6 then [] else cE k y.X) → r' = r ++ (if y.Kind = 6 then [] else rE k y.X) → uses_stats_j3 (SemaV_run n) i y (uses_stats_l1 n (SemaV_run n) l m) c' s' r' = some (c ++ ((l.drop i).map (cS (k + 1))).flatten, s ++ ((l.drop i).map (sS (k + 1))).flatten, r ++ ((l.drop i).map (rS (k + 1))).flatten) := by
              intro c' r' e1 e3
              rw [uses_stats_j3]
              split
              · rename_i h; exact J4 _ _ _ _ (by simp [h]) e1 e2 e3
              · rename_i h; exact J4 _ _ _ _ (by simp [h]) e1 e2 e3
            rw [uses_stats_j1]
            by_cases c6 : y.Kind = 6
            · rw [if_neg (by simpa using c6)]
              exact J3 _ _ (by rw [if_pos c6, List.append_nil]) (by rw [if_pos c6, List.append_nil])
            · rw [if_neg c6] at g3 g4 g5
              rw [if_pos c6, uses_expr_t n k y.X c s' r (by omega) (oX c6) (by omega) (by omega), bS]
              exact J3 _ _ (by rw [if_neg c6]) (by rw [if_neg c6])
          by_cases c7 : y.Kind = 7
          · rw [if_pos c7, app_ok (by simp; omega), bS, uses_stats_j2]
            exact J1 _ (by rw [if_pos c7])
          · rw [if_neg c7]
            exact J1 _ (by rw [if_neg c7, List.append_nil])
        · rw [if_neg (by omega), List.drop_eq_nil_of_le (by omega)]
          simp
    rw [uses_stats]
    have := L (l.length + 1) 0 c s r (by omega) (by omega) (by simpa using h3) (by simpa using h4) (by simpa using h5)
    simpa using this
end Go.Y
namespace Go.Y
open Go.Wk Go.Xt
theorem mem_flat {α β : Type} {f : α → List β} {l : List α} {b : β} (h : b ∈ (l.map f).flatten) : ∃ a ∈ l, b ∈ f a := by
  obtain ⟨q, hq, hb⟩ := List.mem_flatten.1 h
  obtain ⟨a, ha, rfl⟩ := List.mem_map.1 hq
  exact ⟨a, ha, hb⟩
theorem mem_ite {β : Type} {c : Prop} [Decidable c] {l m : List β} {b : β} (h : b ∈ (if c then l else m)) : (c ∧ b ∈ l) ∨ (¬ c ∧ b ∈ m) := by
  by_cases q : c
  · rw [if_pos q] at h; exact .inl ⟨q, h⟩
  · rw [if_neg q] at h; exact .inr ⟨q, h⟩
theorem calls_c {p : TSp} : ∀ (k : Nat) (x : TExpr), Calls p k x → ∀ c ∈ cE k x, ∃ d, mget p.named c = some d ∧ (d.Kind = 2 ∨ d.Kind = 3)
  | 0, x, h => by cases h
  | k + 1, x, h => by
    obtain ⟨h1, h2, h3, h4⟩ := h
    intro c hc
    rw [cE] at hc
    rcases List.mem_append.1 hc with hc | hc
    · rcases mem_ite hc with ⟨q, hc⟩ | ⟨q, hc⟩
      · rw [List.mem_singleton.1 hc]
        rcases q with q | q
        · obtain ⟨d, e1, e2⟩ := h1 q; exact ⟨d, e1, .inl e2⟩
        · obtain ⟨d, e1, e2⟩ := h2 q; exact ⟨d, e1, .inr e2⟩
      · cases hc
    · obtain ⟨a, ha, hb⟩ := mem_flat hc
      exact calls_c k a (h4 a ha) c hb
theorem callsS_c {p : TSp} : ∀ (k : Nat) (x : TStat), CallsS p k x → ∀ c ∈ cS k x, ∃ d, mget p.named c = some d ∧ (d.Kind = 2 ∨ d.Kind = 3)
  | 0, x, h => by cases h
  | k + 1, x, h => by
    obtain ⟨h1, h2, h3, h4⟩ := h
    intro c hc
    rw [cS] at hc
    rcases List.mem_append.1 hc with hc | hc
    · rcases List.mem_append.1 hc with hc | hc
      · rcases mem_ite hc with ⟨q, hc⟩ | ⟨q, hc⟩
        · cases hc
        · exact calls_c k _ (h1 q) c hc
      · rcases mem_ite hc with ⟨q, hc⟩ | ⟨q, hc⟩
        · obtain ⟨a, ha, hb⟩ := mem_flat hc
          exact callsS_c k a (h2 q a ha) c hb
        · cases hc
    · rcases mem_ite hc with ⟨q, hc⟩ | ⟨q, hc⟩
      · obtain ⟨a, ha, hb⟩ := mem_flat hc
        exact callsS_c k a (h3 q a ha) c hb
      · cases hc
def cD (d : TDef) : List Nm := (d.Body.map (cS 39)).flatten
def sD (d : TDef) : List Nm := (d.Body.map (sS 39)).flatten
def rD (d : TDef) : List Nm := (d.Body.map (rS 39)).flatten
def addC (N : List (Nm × TDef)) : List Nm → List Nm → List (Option TDef) → List Nm × List (Option TDef)
  | [], had, todo => (had, todo)
  | c :: cs, had, todo => if had.contains c = true then addC N cs had todo else addC N cs (had ++ [c]) (todo ++ [mget N c])
def rch (N : List (Nm × TDef)) : Nat → List Nm → List (Option TDef) → List Nm → List Nm → Option TSemaUses
  | 0, _, _, _, _ => none
  | n + 1, had, [], s, r => some ⟨[], s, r⟩
  | n + 1, had, none :: t, s, r => none
  | n + 1, had, some d :: t, s, r => rch N n (addC N (cD d) had t).1 (addC N (cD d) had t).2 (s ++ sD d) (r ++ rD d)
def rem_ (l : List TDef) (had : List Nm) : Nat := (l.filter fun d => !had.contains d.Name).length
theorem filter_le {α : Type} (P Q : α → Bool) (h : ∀ x, Q x = true → P x = true) : ∀ l : List α, (l.filter Q).length ≤ (l.filter P).length
  | [] => by simp
  | x :: l => by
    have ih := filter_le P Q h l
    rw [List.filter_cons, List.filter_cons]
    by_cases q : Q x = true
    · rw [if_pos q, if_pos (h x q), List.length_cons, List.length_cons]; omega
    · rw [if_neg q]
      split
      · rw [List.length_cons]; omega
      · exact ih
theorem filter_lt {α : Type} (P Q : α → Bool) (h : ∀ x, Q x = true → P x = true) : ∀ (l : List α) (x : α), x ∈ l → P x = true → Q x = false → (l.filter Q).length < (l.filter P).length
  | y :: l, x, hx, hp, hq => by
    have le := filter_le P Q h l
    rw [List.filter_cons, List.filter_cons]
    rcases List.mem_cons.1 hx with rfl | hx
    · rw [if_pos hp, if_neg (by simp [hq]), List.length_cons]; omega
    · have ih := filter_lt P Q h l x hx hp hq
      by_cases q : Q y = true
      · rw [if_pos q, if_pos (h y q), List.length_cons, List.length_cons]; omega
      · rw [if_neg q]
        split
        · rw [List.length_cons]; omega
        · exact ih
theorem rem_add (l : List TDef) (had : List Nm) (d : TDef) (hd : d ∈ l) (h : had.contains d.Name = false) : rem_ l (had ++ [d.Name]) < rem_ l had := by
  refine filter_lt _ _ (fun x hx => ?_) l d hd (by simpa using h) (by simp)
  simp only [Bool.not_eq_true', List.contains_eq_mem, List.mem_append, decide_eq_false_iff_not] at hx ⊢
  exact fun h => hx (.inl h)
structure Todo (p : TSp) (l : List TDef) (had : List Nm) (todo : List (Option TDef)) (q : Nat) : Prop where
  hl : had.length + rem_ l had ≤ 30
  td : ∀ o ∈ todo, ∃ d ∈ l, o = some d ∧ d.Kind ≠ 1
  q : rem_ l had + todo.length ≤ q
theorem addC_ok {p : TSp} {l : List TDef} (R : Right p l) : ∀ (cs : List Nm) (had : List Nm) (todo : List (Option TDef)) (q : Nat), (∀ c ∈ cs, ∃ d, mget p.named c = some d ∧ (d.Kind = 2 ∨ d.Kind = 3)) → Todo p l had todo q → Todo p l (addC p.named cs had todo).1 (addC p.named cs had todo).2 q
  | [], had, todo, q, h, T => T
  | c :: cs, had, todo, q, h, T => by
    rw [addC]
    have h' : ∀ c ∈ cs, ∃ d, mget p.named c = some d ∧ (d.Kind = 2 ∨ d.Kind = 3) := fun c hc => h c (List.mem_cons_of_mem _ hc)
    by_cases k : had.contains c = true
    · rw [if_pos k]; exact addC_ok R cs had todo q h' T
    · rw [if_neg k]
      obtain ⟨d, e1, e2⟩ := h c (List.mem_cons_self ..)
      obtain ⟨m1, m2⟩ := R.only _ _ e1
      have hr := rem_add l had d m1 (by rw [m2]; simpa using k)
      rw [m2] at hr
      refine addC_ok R cs _ _ q h' ⟨?_, fun o ho => ?_, ?_⟩
      · rw [List.length_append, List.length_singleton]; have := T.hl; omega
      · rcases List.mem_append.1 ho with ho | ho
        · exact T.td o ho
        · rw [List.mem_singleton.1 ho]; exact ⟨d, m1, e1, by omega⟩
      · rw [List.length_append, List.length_singleton]; have := T.q; omega
theorem reach_l2_e {p : TSp} {l : List TDef} (R : Right p l) (u : List Nm × List Nm × List Nm) (s r : List Nm) (K : List Nm → List (Option TDef) → List Nm → List Nm → Option TSemaUses) (hu : ∀ c ∈ u.1, ∃ d, mget p.named c = some d ∧ (d.Kind = 2 ∨ d.Kind = 3)) (hl : u.1.length ≤ 1000000) :
    ∀ (m i : Nat) (had : List Nm) (todo : List (Option TDef)) (q : Nat), i ≤ u.1.length → u.1.length < m + i → q ≤ 1000 → Todo p l had todo q →
      sema_reach_l2 p u s r K m i had todo = K (addC p.named (u.1.drop i) had todo).1 (addC p.named (u.1.drop i) had todo).2 s r := by
  intro m
  induction m with
  | zero => intro i had todo q h1 h2; omega
  | succ m ih =>
    intro i had todo q h1 h2 hq T
    rw [sema_reach_l2]
    by_cases c : i < u.1.length
    · rw [if_pos (by omega), at_nat, List.getElem?_eq_getElem c, bS, List.drop_eq_getElem_cons c, addC]
      have hc := hu _ (List.getElem_mem c)
      by_cases k : had.contains u.1[i] = true
      · rw [if_pos k, if_pos k, i64_ok (by omega), bS]
        exact ih (i + 1) had todo q c (by omega) hq T
      · have T1 := T.hl
        have T2 := T.q
        have T' := addC_ok R [u.1[i]] had todo q (fun c hc' => by rw [List.mem_singleton.1 hc']; exact hc) T
        rw [addC, if_neg k, addC] at T'
        rw [if_neg k, if_neg k, app_ok (by simp; omega), bS, app_ok (by simp; omega), bS, i64_ok (by omega), bS]
        exact ih (i + 1) _ _ q c (by omega) hq T'
    · rw [if_neg (by omega), List.drop_eq_nil_of_le (by omega)]
      rfl
theorem uses_body {p : TSp} {l : List TDef} (R : Right p l) (fu : Nat) (hf : 500 ≤ fu) (d : TDef) (hd : d ∈ l) (h1 : d.Kind ≠ 1) : (SemaV_run fu).uses_stats [] [] [] d.Body = some (cD d, sD d, rD d) ∧ (cD d).length ≤ 2000 ∧ (sD d).length ≤ 2000 ∧ (rD d).length ≤ 2000 := by
  have ok := R.ok.ok d hd
  have hn : nD d ≤ 2000 := Nat.le_trans (le_sum nD l d hd) R.ok.n
  rw [nD, if_pos h1] at hn
  have := uses_stats_t fu 39 d.Body [] [] [] (by omega) (ok.bl h1) (ok.bo h1) (by simp; omega) (by simp; omega) (by simp; omega)
  have a1 := flat_le (cS 39) (nS 39) (cS_le 39) d.Body
  have a2 := flat_le (sS 39) (nS 39) (sS_le 39) d.Body
  have a3 := flat_le (rS 39) (nS 39) (rS_le 39) d.Body
  exact ⟨by rw [this]; rfl, by rw [cD]; omega, by rw [sD]; omega, by rw [rD]; omega⟩
theorem reach_l1_e {p : TSp} {l : List TDef} (R : Right p l) (fu : Nat) (hf : 500 ≤ fu) : ∀ (n q : Nat) (had : List Nm) (todo : List (Option TDef)) (s r : List Nm), q < n → q ≤ 1000 → Todo p l had todo q → s.length + 2000 * q ≤ 1000000000 → r.length + 2000 * q ≤ 1000000000 →
    sema_reach_l1 fu p n had todo s r = rch p.named n had todo s r ∧ (∃ u, rch p.named n had todo s r = some u ∧ u.calls = []) := by
  intro n
  induction n with
  | zero => intro q had todo s r h1; omega
  | succ n ih =>
    intro q had todo s r h1 h2 T b1 b2
    rw [sema_reach_l1]
    cases todo with
    | nil => exact ⟨by rw [if_neg (by simp)]; rfl, _, rfl, rfl⟩
    | cons o t =>
      obtain ⟨d, hd, rfl, k1⟩ := T.td o (List.mem_cons_self ..)
      obtain ⟨u1, u2, u3, u4⟩ := uses_body R fu hf d hd k1
      have T2 := T.q
      have T1 := T.hl
      rw [List.length_cons] at T2
      have e1 : at_ (some d :: t) 0 = some (some d) := rfl
      have e2 : cut (some d :: t) 1 ((some d :: t).length : Int) = some t := by
        rw [cut, if_pos (by simp; omega)]
        simp
      have hc : ∀ c ∈ cD d, ∃ d', mget p.named c = some d' ∧ (d'.Kind = 2 ∨ d'.Kind = 3) := fun c hc => by
        obtain ⟨a, ha, hb⟩ := mem_flat hc
        exact callsS_c 39 a (R.cs d hd k1 a ha) c hb
      have T' : Todo p l had t (q - 1) := ⟨T1, fun o ho => T.td o (List.mem_cons_of_mem _ ho), by omega⟩
      have T3 := addC_ok R (cD d) had t (q - 1) hc T'
      rw [if_pos (by simp), e1, bS, e2, bS, bS, u1, bS, app_ok (by simp only []; omega), bS, app_ok (by simp only []; omega), bS, sema_reach_j1]
      rw [show ((0 : Int)) = ((0 : Nat) : Int) from rfl, reach_l2_e R (cD d, sD d, rD d) _ _ _ hc (by simp only []; omega) _ 0 had t (q - 1) (by omega) (by simp only []; omega) (by omega) T', List.drop_zero]
      rw [rch]
      exact ih (q - 1) _ _ (s ++ sD d) (r ++ rD d) (by omega) (by omega) T3 (by rw [List.length_append]; omega) (by rw [List.length_append]; omega)
theorem reach_e {p : TSp} {l : List TDef} (R : Right p l) (fu : Nat) (hf : 500 ≤ fu) (d : TDef) (hd : d ∈ l) (h1 : d.Kind ≠ 1) : sema_reach fu p d = rch p.named fu [] [some d] [] [] ∧ (∃ u, rch p.named fu [] [some d] [] [] = some u ∧ u.calls = []) := by
  have hr : rem_ l [] ≤ 30 := Nat.le_trans (List.length_filter_le _ _) R.ok.le
  exact reach_l1_e R fu hf fu 31 [] [some d] [] [] (by omega) (by omega) ⟨by simpa using hr, fun o ho => by rw [List.mem_singleton.1 ho]; exact ⟨d, hd, rfl, h1⟩, by simp; omega⟩ (by simp) (by simp)
def noU : TSemaUses := ⟨[], [], []⟩
def own3 (L : List (Nm × TSemaUses)) (b : Nm) : List TDef → Nm → Nm → Option (Nm × Nm)
  | [], w, r => some (w, r)
  | t :: ts, w, r => if t.Kind ≠ 4 then own3 L b ts w r else
      if ((mget L t.Name).getD noU).sends.contains b = true ∧ w ≠ [] then none else
      if ((mget L t.Name).getD noU).recvs.contains b = true ∧ r ≠ [] then none else
      own3 L b ts (if ((mget L t.Name).getD noU).sends.contains b = true then t.Name else w) (if ((mget L t.Name).getD noU).recvs.contains b = true then t.Name else r)
def own2 (L : List (Nm × TSemaUses)) (l : List TDef) : List TDef → Int → List TOwner → List TOwner × TFault
  | [], i, acc => (acc, ⟨0, 0⟩)
  | x :: xs, i, acc => if x.Kind ≠ 1 then own2 L l xs (i + 1) acc else
      match own3 L x.Name l [] [] with
      | none => ([], ⟨8, i⟩)
      | some (w, r) => own2 L l xs (i + 1) (acc ++ [⟨x.Name, w, r⟩])
def own1 (N : List (Nm × TDef)) (fu : Nat) : List TDef → List (Nm × TSemaUses) → List (Nm × TSemaUses)
  | [], L => L
  | d :: ds, L => if d.Kind = 4 then own1 N fu ds (mput L d.Name ((rch N fu [] [some d] [] []).getD noU)) else own1 N fu ds L
theorem own_l3_e (l : List TDef) (hl : l.length ≤ 30) (L : List (Nm × TSemaUses)) (i : Int) (acc : List TOwner) (x : TDef) (K : Int → List TOwner → Option (List TOwner × TFault)) (hi : 0 ≤ i ∧ i ≤ 1000) (ha : acc.length ≤ 1000) :
    ∀ (m j : Nat) (w r : Nm), j ≤ l.length → l.length < m + j → sema_owners_l3 l L i acc x K m j w r = match own3 L x.Name (l.drop j) w r with | none => some ([], ⟨8, i⟩) | some (w', r') => K (i + 1) (acc ++ [⟨x.Name, w', r'⟩]) := by
  intro m
  induction m with
  | zero => intro j w r h1 h2; omega
  | succ m ih =>
    intro j w r h1 h2
    rw [sema_owners_l3]
    by_cases c : j < l.length
    · rw [if_pos (by omega), at_nat, List.getElem?_eq_getElem c, bS, List.drop_eq_getElem_cons c, own3]
      have e0 : (TSemaUses.mk [] [] []) = noU := rfl
      have nx := fun w r => ih (j + 1) w r c (by omega)
      generalize l[j] = t at *
      by_cases k4 : t.Kind ≠ 4
      · rw [if_pos k4, if_pos k4, i64_ok (by omega), bS]
        exact nx w r
      · rw [if_neg k4, if_neg k4, e0]
        have J2 : ∀ w', sema_owners_j2 L i x j r t (sema_owners_l3 l L i acc x K m) w' = if ((mget L t.Name).getD noU).recvs.contains x.Name = true ∧ r ≠ [] then some ([], ⟨8, i⟩) else
            match own3 L x.Name (l.drop (j + 1)) w' (if ((mget L t.Name).getD noU).recvs.contains x.Name = true then t.Name else r) with | none => some ([], ⟨8, i⟩) | some (w', r') => K (i + 1) (acc ++ [⟨x.Name, w', r'⟩]) := by
          intro w'
          rw [sema_owners_j2, e0]
          by_cases q : ((mget L t.Name).getD noU).recvs.contains x.Name = true
          · rw [if_pos q]
            by_cases z : r ≠ []
            · rw [if_pos z, if_pos ⟨q, z⟩]
            · rw [if_neg z, if_neg (fun h => z h.2), if_pos q, sema_owners_j3, i64_ok (by omega), bS]
              exact nx _ _
          · rw [if_neg q, if_neg (fun h => q h.1), if_neg q, sema_owners_j3, i64_ok (by omega), bS]
            exact nx _ _
        by_cases q : ((mget L t.Name).getD noU).sends.contains x.Name = true
        · rw [if_pos q]
          by_cases z : w ≠ []
          · rw [if_pos z, if_pos ⟨q, z⟩]
          · rw [if_neg z, if_neg (fun h => z h.2), if_pos q, J2]
            split <;> rfl
        · rw [if_neg q, if_neg (fun h => q h.1), if_neg q, J2]
          split <;> rfl
    · rw [if_neg (by omega), List.drop_eq_nil_of_le (by omega), app_ok (by simp; omega), bS, i64_ok (by omega), bS]
      rfl
theorem own_l2_e (l : List TDef) (hl : l.length ≤ 30) (L : List (Nm × TSemaUses)) : ∀ (m i : Nat) (acc : List TOwner), i ≤ l.length → l.length < m + i → acc.length ≤ i → sema_owners_l2 l L m i acc = some (own2 L l (l.drop i) i acc) := by
  intro m
  induction m with
  | zero => intro i acc h1 h2; omega
  | succ m ih =>
    intro i acc h1 h2 h3
    rw [sema_owners_l2]
    by_cases c : i < l.length
    · rw [if_pos (by omega), at_nat, List.getElem?_eq_getElem c, bS, List.drop_eq_getElem_cons c, own2]
      by_cases k1 : l[i].Kind ≠ 1
      · rw [if_pos k1, if_pos k1, i64_ok (by omega), bS]
        exact ih (i + 1) acc c (by omega) (by omega)
      · rw [if_neg k1, if_neg k1, show ((0 : Int)) = ((0 : Nat) : Int) from rfl, own_l3_e l hl L i acc l[i] _ (by omega) (by omega) _ 0 [] [] (by omega) (by omega), List.drop_zero]
        cases h : own3 L l[i].Name l [] [] with
        | none => rfl
        | some v => exact ih (i + 1) _ c (by omega) (by simp; omega)
    · rw [if_neg (by omega), List.drop_eq_nil_of_le (by omega)]
      rfl
theorem own_l1_e {p : TSp} {l : List TDef} (R : Right p l) (fu : Nat) (hf : 500 ≤ fu) (f : TFault) : ∀ (m i : Nat) (L : List (Nm × TSemaUses)), i ≤ l.length → l.length < m + i → sema_owners_l1 fu l (p, f) m i L = some (own2 (own1 p.named fu (l.drop i) L) l l 0 []) := by
  have hl := R.ok.le
  intro m
  induction m with
  | zero => intro i L h1 h2; omega
  | succ m ih =>
    intro i L h1 h2
    rw [sema_owners_l1]
    by_cases c : i < l.length
    · have e0 : at_ l (i : Int) = some l[i] := by rw [at_nat, List.getElem?_eq_getElem c]
      rw [if_pos (by omega), e0, bS, List.drop_eq_getElem_cons c, own1]
      by_cases k4 : l[i].Kind = 4
      · obtain ⟨h1', u, h2', -⟩ := reach_e R fu hf l[i] (List.getElem_mem _) (by omega)
        rw [if_pos k4, if_pos k4]
        simp only [bS]
        rw [h1', h2', bS, sema_owners_j1, i64_ok (by omega), bS]
        exact ih (i + 1) _ c (by omega)
      · rw [if_neg k4, if_neg k4, i64_ok (by omega), bS]
        exact ih (i + 1) L c (by omega)
    · rw [if_neg (by omega), List.drop_eq_nil_of_le (by omega)]
      exact own_l2_e l hl L (l.length + 1) 0 [] (by omega) (by omega) (by simp)
theorem sema_owners_t (fu : Nat) (hf : 500 ≤ fu) (l : List TDef) : ∃ p f, sema_named fu l = some (p, f) ∧ ((f.Err ≠ 0 ∧ sema_owners fu l = some ([], f)) ∨ (f.Err = 0 ∧ Right p l ∧ sema_owners fu l = some (own2 (own1 p.named fu l []) l l 0 []))) := by
  obtain ⟨p, f, h1, h2⟩ := sema_named_t fu hf l
  refine ⟨p, f, h1, ?_⟩
  rw [sema_owners, h1, bS]
  by_cases z : f.Err = 0
  · rw [if_neg (by simpa using z)]
    exact .inr ⟨z, h2 z, own_l1_e (h2 z) fu hf f (l.length + 1) 0 [] (by omega) (by omega)⟩
  · rw [if_pos z]
    exact .inl ⟨z, rfl⟩
end Go.Y
namespace Go.Y
open Go.Wk Go.Xt
def gen_typ  (p_1 : TGt) (p_2 : TType) : Option Int :=
  if p_2.Kind = 3 then
    (i64 (10 + ((mget p_1.units p_2.Gen).getD 0))).bind fun i19 =>
    some i19
  else
    some p_2.Kind
def gen_typo  (boxe_2 unit_7 : List (List UInt8 × Int)) (defs_12 : List (List UInt8 × TDef)) (p_2 : TType) : Option Int :=
  if p_2.Kind = 3 then
    (i64 (10 + ((mget unit_7 p_2.Gen).getD 0))).bind fun i22 =>
    some i22
  else
    some p_2.Kind
def gen_put  (tabl_2 : TGt) (kind_12 para_13 : Int) (loca_14 : List Int) (resu_18 take_19 : Int) (code_20 : List TInstr) (bloc_24 : List (List (List UInt8 × Int))) (p_2 p_3 p_4 : Int) : Option (Int × Int × Int × List Int × Int × Int × List TInstr × List (List (List UInt8 × Int))) :=
  (app code_20 [(TInstr.mk p_2 p_3 p_4)]).bind fun l41 =>
  (i64 ((l41.length : Int) - 1)).bind fun i44 =>
  some (i44, kind_12, para_13, loca_14, resu_18, take_19, l41, bloc_24)
def gen_here  (tabl_2 : TGt) (kind_12 para_13 : Int) (loca_14 : List Int) (resu_18 take_19 : Int) (code_20 : List TInstr) (bloc_24 : List (List (List UInt8 × Int))) : Option Int :=
  some (code_20.length : Int)
def gen_local  (tabl_2 : TGt) (kind_12 para_13 : Int) (loca_14 : List Int) (resu_18 take_19 : Int) (code_20 : List TInstr) (bloc_24 : List (List (List UInt8 × Int))) (p_2 : List UInt8) (p_3 : Int) : Option (Int × Int × Int × List Int × Int × Int × List TInstr × List (List (List UInt8 × Int))) :=
  (app loca_14 [p_3]).bind fun l41 =>
  (i64 ((l41.length : Int) - 1)).bind fun i44 =>
  (i64 ((bloc_24.length : Int) - 1)).bind fun i46 =>
  (at_ bloc_24 i46).bind fun x48 =>
  some (i44, kind_12, para_13, l41, resu_18, take_19, code_20, (bloc_24.set i46.toNat (mput x48 p_2 i44)))
def gen_look_l1 (p_2 : List UInt8) (bloc_24 : List (List (List UInt8 × Int))) : Nat → Int → Option Int
  | 0, _ => none
  | n + 1, i45 =>
    if (0 : Int) ≤ i45 then
      (at_ bloc_24 i45).bind fun x63 =>
      if (mget x63 p_2).isSome = true then
        some ((mget x63 p_2).getD 0)
      else
        (i64 (i45 - 1)).bind fun i77 =>
        gen_look_l1 p_2 bloc_24 n i77
    else
      some 0
def gen_look (fu : Nat)  (tabl_2 : TGt) (kind_12 para_13 : Int) (loca_14 : List Int) (resu_18 take_19 : Int) (code_20 : List TInstr) (bloc_24 : List (List (List UInt8 × Int))) (p_2 : List UInt8) : Option Int :=
  (i64 ((bloc_24.length : Int) - 1)).bind fun i28 =>
  gen_look_l1 p_2 bloc_24 fu i28
structure GenE where
  gen_expr : TGt → Int → Int → (List Int) → Int → Int → (List TInstr) → (List (List (List UInt8 × Int))) → TExpr → Option (Int × Int × Int × List Int × Int × Int × List TInstr × List (List (List UInt8 × Int)))
def gen_expr_j2 (r277 : Int × Int × Int × List Int × Int × Int × List TInstr × List (List (List UInt8 × Int))) (i289 : Int) : Option (Int × Int × Int × List Int × Int × Int × List TInstr × List (List (List UInt8 × Int))) :=
  some (i289, r277.2.1, r277.2.2.1, r277.2.2.2.1, r277.2.2.2.2.1, r277.2.2.2.2.2.1, r277.2.2.2.2.2.2.1, r277.2.2.2.2.2.2.2)
def gen_expr_j3 (r338 : Int × Int × Int × List Int × Int × Int × List TInstr × List (List (List UInt8 × Int))) (i350 : Int) : Option (Int × Int × Int × List Int × Int × Int × List TInstr × List (List (List UInt8 × Int))) :=
  some (i350, r338.2.1, r338.2.2.1, r338.2.2.2.1, r338.2.2.2.2.1, r338.2.2.2.2.2.1, r338.2.2.2.2.2.2.1, r338.2.2.2.2.2.2.2)
def gen_expr_j4 (r445 : Int × Int × Int × List Int × Int × Int × List TInstr × List (List (List UInt8 × Int))) (i510 : Int) : Option (Int × Int × Int × List Int × Int × Int × List TInstr × List (List (List UInt8 × Int))) :=
  some (i510, r445.2.1, r445.2.2.1, r445.2.2.2.1, r445.2.2.2.2.1, r445.2.2.2.2.2.1, r445.2.2.2.2.2.2.1, r445.2.2.2.2.2.2.2)
def gen_expr_j1 (p_2 : TExpr) (tabl_2 : TGt) (i77 i78 i79 i80 : Int) (l83 : List Int) (l87 : List TInstr) (l91 : List (List (List UInt8 × Int))) (l95 : List Int) (b249 : Bool) : Option (Int × Int × Int × List Int × Int × Int × List TInstr × List (List (List UInt8 × Int))) :=
  if b249 = true then
    (i64 (8 + p_2.Kind)).bind fun i253 =>
    (i64 (i253 - 6)).bind fun i255 =>
    (gen_put tabl_2 i77 i78 l83 i79 i80 l87 l91 i255 0 0).bind fun r257 =>
    if p_2.Kind ≤ 10 then
      some (1, r257.2.1, r257.2.2.1, r257.2.2.2.1, r257.2.2.2.2.1, r257.2.2.2.2.2.1, r257.2.2.2.2.2.2.1, r257.2.2.2.2.2.2.2)
    else
      some (2, r257.2.1, r257.2.2.1, r257.2.2.2.1, r257.2.2.2.2.1, r257.2.2.2.2.2.1, r257.2.2.2.2.2.2.1, r257.2.2.2.2.2.2.2)
  else
    if p_2.Kind = 19 then
      (gen_put tabl_2 i77 i78 l83 i79 i80 l87 l91 23 ((mget tabl_2.units p_2.Name).getD 0) 0).bind fun r277 =>
      ((mget tabl_2.defs p_2.Name)).bind fun x296 =>
      (gen_typ tabl_2 x296.Typ).bind fun r309 =>
      gen_expr_j2 r277 r309
    else
      if p_2.Kind = 20 then
        (gen_put tabl_2 i77 i78 l83 i79 i80 l87 l91 27 ((mget tabl_2.boxes p_2.Name).getD 0) 0).bind fun r338 =>
        ((mget tabl_2.defs p_2.Name)).bind fun x357 =>
        (gen_typ tabl_2 x357.Typ).bind fun r370 =>
        gen_expr_j3 r338 r370
      else
        if p_2.Kind = 22 then
          (gen_put tabl_2 i77 i78 l83 i79 i80 l87 l91 29 ((mget tabl_2.units p_2.Name).getD 0) 0).bind fun r399 =>
          (i64 (10 + ((mget tabl_2.units p_2.Name).getD 0))).bind fun i417 =>
          some (i417, r399.2.1, r399.2.2.1, r399.2.2.2.1, r399.2.2.2.2.1, r399.2.2.2.2.2.1, r399.2.2.2.2.2.2.1, r399.2.2.2.2.2.2.2)
        else
          if p_2.Kind = 21 then
            (gen_put tabl_2 i77 i78 l83 i79 i80 l87 l91 31 0 0).bind fun r420 =>
            some (r420.2.2.2.2.2.1, r420.2.1, r420.2.2.1, r420.2.2.2.1, r420.2.2.2.2.1, r420.2.2.2.2.2.1, r420.2.2.2.2.2.2.1, r420.2.2.2.2.2.2.2)
          else
            if p_2.Kind = 24 then
              (gen_put tabl_2 i77 i78 l83 i79 i80 l87 l91 32 0 0).bind fun r433 =>
              some (2, r433.2.1, r433.2.2.1, r433.2.2.2.1, r433.2.2.2.2.1, r433.2.2.2.2.2.1, r433.2.2.2.2.2.2.1, r433.2.2.2.2.2.2.2)
            else
              (gen_put tabl_2 i77 i78 l83 i79 i80 l87 l91 30 0 0).bind fun r445 =>
              (at_ l95 0).bind fun x463 =>
              (i64 (x463 - 10)).bind fun i477 =>
              (mfind tabl_2.units i477).bind fun o479 =>
              if o479.isSome = true then
                ((mget tabl_2.defs ((o479.getD ([], 0)).1))).bind fun x517 =>
                (gen_typ tabl_2 x517.Typ).bind fun r530 =>
                gen_expr_j4 r445 r530
              else
                some (0, r445.2.1, r445.2.2.1, r445.2.2.2.1, r445.2.2.2.2.1, r445.2.2.2.2.2.1, r445.2.2.2.2.2.2.1, r445.2.2.2.2.2.2.2)
def gen_expr_l1 (fu : Nat) (self : GenE) (p_2 : TExpr) (tabl_2 : TGt) : Nat → Int → Int → Int → Int → Int → (List Int) → (List TInstr) → (List (List (List UInt8 × Int))) → (List Int) → Option (Int × Int × Int × List Int × Int × Int × List TInstr × List (List (List UInt8 × Int)))
  | 0, _, _, _, _, _, _, _, _, _ => none
  | n + 1, i76, i77, i78, i79, i80, l83, l87, l91, l95 =>
    if i76 < (p_2.Kids.length : Int) then
      (at_ p_2.Kids i76).bind fun x135 =>
      (self.gen_expr tabl_2 i77 i78 l83 i79 i80 l87 l91 x135).bind fun r146 =>
      (app l95 [r146.1]).bind fun l162 =>
      (i64 (i76 + 1)).bind fun i165 =>
      gen_expr_l1 fu self p_2 tabl_2 n i165 r146.2.1 r146.2.2.1 r146.2.2.2.2.1 r146.2.2.2.2.2.1 r146.2.2.2.1 r146.2.2.2.2.2.2.1 r146.2.2.2.2.2.2.2 l162
    else
      if p_2.Kind = 1 then
        (gen_put tabl_2 i77 i78 l83 i79 i80 l87 l91 1 0 p_2.N).bind fun r168 =>
        some (1, r168.2.1, r168.2.2.1, r168.2.2.2.1, r168.2.2.2.2.1, r168.2.2.2.2.2.1, r168.2.2.2.2.2.2.1, r168.2.2.2.2.2.2.2)
      else
        if p_2.Kind = 2 then
          (gen_put tabl_2 i77 i78 l83 i79 i80 l87 l91 2 p_2.N 0).bind fun r181 =>
          some (2, r181.2.1, r181.2.2.1, r181.2.2.2.1, r181.2.2.2.2.1, r181.2.2.2.2.2.1, r181.2.2.2.2.2.2.1, r181.2.2.2.2.2.2.2)
        else
          if p_2.Kind = 3 then
            (gen_look fu tabl_2 i77 i78 l83 i79 i80 l87 l91 p_2.Name).bind fun r194 =>
            (gen_put tabl_2 i77 i78 l83 i79 i80 l87 l91 3 r194 0).bind fun r197 =>
            (at_ r197.2.2.2.1 r194).bind fun x209 =>
            some (x209, r197.2.1, r197.2.2.1, r197.2.2.2.1, r197.2.2.2.2.1, r197.2.2.2.2.2.1, r197.2.2.2.2.2.2.1, r197.2.2.2.2.2.2.2)
          else
            if p_2.Kind = 4 then
              (gen_put tabl_2 i77 i78 l83 i79 i80 l87 l91 6 0 0).bind fun r224 =>
              some (1, r224.2.1, r224.2.2.1, r224.2.2.2.1, r224.2.2.2.2.1, r224.2.2.2.2.2.1, r224.2.2.2.2.2.2.1, r224.2.2.2.2.2.2.2)
            else
              if p_2.Kind = 5 then
                (gen_put tabl_2 i77 i78 l83 i79 i80 l87 l91 7 0 0).bind fun r237 =>
                some (2, r237.2.1, r237.2.2.1, r237.2.2.2.1, r237.2.2.2.2.1, r237.2.2.2.2.2.1, r237.2.2.2.2.2.2.1, r237.2.2.2.2.2.2.2)
              else
                if (6 : Int) ≤ p_2.Kind then
                  gen_expr_j1 p_2 tabl_2 i77 i78 i79 i80 l83 l87 l91 l95 (decide (p_2.Kind ≤ 18))
                else
                  gen_expr_j1 p_2 tabl_2 i77 i78 i79 i80 l83 l87 l91 l95 false
def gen_expr (fu : Nat) (self : GenE) (tabl_2 : TGt) (kind_12 para_13 : Int) (loca_14 : List Int) (resu_18 take_19 : Int) (code_20 : List TInstr) (bloc_24 : List (List (List UInt8 × Int))) (p_2 : TExpr) : Option (Int × Int × Int × List Int × Int × Int × List TInstr × List (List (List UInt8 × Int))) :=
  gen_expr_l1 fu self p_2 tabl_2 (p_2.Kids.length + 1) 0 kind_12 para_13 resu_18 take_19 loca_14 code_20 bloc_24 []
def GenE_run : Nat → GenE
  | 0 => ⟨fun _ _ _ _ _ _ _ _ _ => none⟩
  | n + 1 => ⟨gen_expr n (GenE_run n)⟩
structure GenS where
  gen_body : TGt → Int → Int → (List Int) → Int → Int → (List TInstr) → (List (List (List UInt8 × Int))) → (List TStat) → Option (Int × Int × List Int × Int × Int × List TInstr × List (List (List UInt8 × Int)))
  gen_stat : TGt → Int → Int → (List Int) → Int → Int → (List TInstr) → (List (List (List UInt8 × Int))) → TStat → Option (Int × Int × List Int × Int × Int × List TInstr × List (List (List UInt8 × Int)))
def gen_body_l1 (self : GenS) (p_2 : List TStat) (tabl_2 : TGt) : Nat → Int → Int → Int → Int → Int → (List Int) → (List TInstr) → (List (List (List UInt8 × Int))) → Option (Int × Int × List Int × Int × Int × List TInstr × List (List (List UInt8 × Int)))
  | 0, _, _, _, _, _, _, _, _ => none
  | n + 1, i81, i82, i83, i84, i85, l88, l92, l96 =>
    if i81 < (p_2.length : Int) then
      (at_ p_2 i81).bind fun x134 =>
      (self.gen_stat tabl_2 i82 i83 l88 i84 i85 l92 l96 x134).bind fun r151 =>
      (i64 (i81 + 1)).bind fun i163 =>
      gen_body_l1 self p_2 tabl_2 n i163 r151.1 r151.2.1 r151.2.2.2.1 r151.2.2.2.2.1 r151.2.2.1 r151.2.2.2.2.2.1 r151.2.2.2.2.2.2
    else
      (i64 ((l96.length : Int) - 1)).bind fun i165 =>
      (cut l96 0 i165).bind fun l167 =>
      some (i82, i83, l88, i84, i85, l92, l167)
def gen_body (self : GenS) (tabl_2 : TGt) (kind_12 para_13 : Int) (loca_14 : List Int) (resu_18 take_19 : Int) (code_20 : List TInstr) (bloc_24 : List (List (List UInt8 × Int))) (p_2 : List TStat) : Option (Int × Int × List Int × Int × Int × List TInstr × List (List (List UInt8 × Int))) :=
  (app bloc_24 [[]]).bind fun l44 =>
  gen_body_l1 self p_2 tabl_2 (p_2.length + 1) 0 kind_12 para_13 resu_18 take_19 loca_14 code_20 l44
def gen_stat_j2 (r122 : Int × Int × List Int × Int × Int × List TInstr × List (List (List UInt8 × Int))) (l136 : List TInstr) : Option (Int × Int × List Int × Int × Int × List TInstr × List (List (List UInt8 × Int))) :=
  some (r122.1, r122.2.1, r122.2.2.1, r122.2.2.2.1, r122.2.2.2.2.1, l136, r122.2.2.2.2.2.2)
def gen_stat_j1 (self : GenS) (p_2 : TStat) (tabl_2 : TGt) (r86 : Int × Int × Int × List Int × Int × Int × List TInstr × List (List (List UInt8 × Int))) (l100 : List TInstr) : Option (Int × Int × List Int × Int × Int × List TInstr × List (List (List UInt8 × Int))) :=
  (self.gen_body tabl_2 r86.2.1 r86.2.2.1 r86.2.2.2.1 r86.2.2.2.2.1 r86.2.2.2.2.2.1 l100 r86.2.2.2.2.2.2.2 p_2.Else).bind fun r122 =>
  (gen_here tabl_2 r122.1 r122.2.1 r122.2.2.1 r122.2.2.2.1 r122.2.2.2.2.1 r122.2.2.2.2.2.1 r122.2.2.2.2.2.2).bind fun r138 =>
  (at_ r122.2.2.2.2.2.1 r86.1).bind fun x141 =>
  gen_stat_j2 r122 (r122.2.2.2.2.2.1.set r86.1.toNat (TInstr.mk x141.Op r138 x141.N))
def gen_stat_j3 (r198 : Int × Int × Int × List Int × Int × Int × List TInstr × List (List (List UInt8 × Int))) (l212 : List TInstr) : Option (Int × Int × List Int × Int × Int × List TInstr × List (List (List UInt8 × Int))) :=
  some (r198.2.1, r198.2.2.1, r198.2.2.2.1, r198.2.2.2.2.1, r198.2.2.2.2.2.1, l212, r198.2.2.2.2.2.2.2)
def gen_stat (fu : Nat) (self : GenS) (tabl_2 : TGt) (kind_12 para_13 : Int) (loca_14 : List Int) (resu_18 take_19 : Int) (code_20 : List TInstr) (bloc_24 : List (List (List UInt8 × Int))) (p_2 : TStat) : Option (Int × Int × List Int × Int × Int × List TInstr × List (List (List UInt8 × Int))) :=
  if p_2.Kind = 3 then
    ((GenE_run fu).gen_expr tabl_2 kind_12 para_13 loca_14 resu_18 take_19 code_20 bloc_24 p_2.X).bind fun r50 =>
    (gen_put tabl_2 r50.2.1 r50.2.2.1 r50.2.2.2.1 r50.2.2.2.2.1 r50.2.2.2.2.2.1 r50.2.2.2.2.2.2.1 r50.2.2.2.2.2.2.2 22 0 0).bind fun r62 =>
    (self.gen_body tabl_2 r62.2.1 r62.2.2.1 r62.2.2.2.1 r62.2.2.2.2.1 r62.2.2.2.2.2.1 r62.2.2.2.2.2.2.1 r62.2.2.2.2.2.2.2 p_2.Body).bind fun r74 =>
    (gen_put tabl_2 r74.1 r74.2.1 r74.2.2.1 r74.2.2.2.1 r74.2.2.2.2.1 r74.2.2.2.2.2.1 r74.2.2.2.2.2.2 21 0 0).bind fun r86 =>
    (gen_here tabl_2 r86.2.1 r86.2.2.1 r86.2.2.2.1 r86.2.2.2.2.1 r86.2.2.2.2.2.1 r86.2.2.2.2.2.2.1 r86.2.2.2.2.2.2.2).bind fun r102 =>
    (at_ r86.2.2.2.2.2.2.1 r62.1).bind fun x105 =>
    gen_stat_j1 self p_2 tabl_2 r86 (r86.2.2.2.2.2.2.1.set r62.1.toNat (TInstr.mk x105.Op r102 x105.N))
  else
    if p_2.Kind = 4 then
      (gen_here tabl_2 kind_12 para_13 loca_14 resu_18 take_19 code_20 bloc_24).bind fun r159 =>
      ((GenE_run fu).gen_expr tabl_2 kind_12 para_13 loca_14 resu_18 take_19 code_20 bloc_24 p_2.X).bind fun r162 =>
      (gen_put tabl_2 r162.2.1 r162.2.2.1 r162.2.2.2.1 r162.2.2.2.2.1 r162.2.2.2.2.2.1 r162.2.2.2.2.2.2.1 r162.2.2.2.2.2.2.2 22 0 0).bind fun r174 =>
      (self.gen_body tabl_2 r174.2.1 r174.2.2.1 r174.2.2.2.1 r174.2.2.2.2.1 r174.2.2.2.2.2.1 r174.2.2.2.2.2.2.1 r174.2.2.2.2.2.2.2 p_2.Body).bind fun r186 =>
      (gen_put tabl_2 r186.1 r186.2.1 r186.2.2.1 r186.2.2.2.1 r186.2.2.2.2.1 r186.2.2.2.2.2.1 r186.2.2.2.2.2.2 21 r159 0).bind fun r198 =>
      (gen_here tabl_2 r198.2.1 r198.2.2.1 r198.2.2.2.1 r198.2.2.2.2.1 r198.2.2.2.2.2.1 r198.2.2.2.2.2.2.1 r198.2.2.2.2.2.2.2).bind fun r214 =>
      (at_ r198.2.2.2.2.2.2.1 r174.1).bind fun x217 =>
      gen_stat_j3 r198 (r198.2.2.2.2.2.2.1.set r174.1.toNat (TInstr.mk x217.Op r214 x217.N))
    else
      if p_2.Kind = 6 then
        (gen_put tabl_2 kind_12 para_13 loca_14 resu_18 take_19 code_20 bloc_24 25 0 0).bind fun r235 =>
        some (r235.2.1, r235.2.2.1, r235.2.2.2.1, r235.2.2.2.2.1, r235.2.2.2.2.2.1, r235.2.2.2.2.2.2.1, r235.2.2.2.2.2.2.2)
      else
        ((GenE_run fu).gen_expr tabl_2 kind_12 para_13 loca_14 resu_18 take_19 code_20 bloc_24 p_2.X).bind fun r247 =>
        if p_2.Kind = 1 then
          (gen_local tabl_2 r247.2.1 r247.2.2.1 r247.2.2.2.1 r247.2.2.2.2.1 r247.2.2.2.2.2.1 r247.2.2.2.2.2.2.1 r247.2.2.2.2.2.2.2 p_2.Name r247.1).bind fun r260 =>
          (gen_put tabl_2 r260.2.1 r260.2.2.1 r260.2.2.2.1 r260.2.2.2.2.1 r260.2.2.2.2.2.1 r260.2.2.2.2.2.2.1 r260.2.2.2.2.2.2.2 4 r260.1 0).bind fun r272 =>
          some (r272.2.1, r272.2.2.1, r272.2.2.2.1, r272.2.2.2.2.1, r272.2.2.2.2.2.1, r272.2.2.2.2.2.2.1, r272.2.2.2.2.2.2.2)
        else
          if p_2.Kind = 2 then
            (gen_look fu tabl_2 r247.2.1 r247.2.2.1 r247.2.2.2.1 r247.2.2.2.2.1 r247.2.2.2.2.2.1 r247.2.2.2.2.2.2.1 r247.2.2.2.2.2.2.2 p_2.Name).bind fun r285 =>
            (gen_put tabl_2 r247.2.1 r247.2.2.1 r247.2.2.2.1 r247.2.2.2.2.1 r247.2.2.2.2.2.1 r247.2.2.2.2.2.2.1 r247.2.2.2.2.2.2.2 4 r285 0).bind fun r288 =>
            some (r288.2.1, r288.2.2.1, r288.2.2.2.1, r288.2.2.2.2.1, r288.2.2.2.2.2.1, r288.2.2.2.2.2.2.1, r288.2.2.2.2.2.2.2)
          else
            if p_2.Kind = 5 then
              (gen_put tabl_2 r247.2.1 r247.2.2.1 r247.2.2.2.1 r247.2.2.2.2.1 r247.2.2.2.2.2.1 r247.2.2.2.2.2.2.1 r247.2.2.2.2.2.2.2 24 0 0).bind fun r301 =>
              some (r301.2.1, r301.2.2.1, r301.2.2.2.1, r301.2.2.2.2.1, r301.2.2.2.2.2.1, r301.2.2.2.2.2.2.1, r301.2.2.2.2.2.2.2)
            else
              if p_2.Kind = 7 then
                (gen_put tabl_2 r247.2.1 r247.2.2.1 r247.2.2.2.1 r247.2.2.2.2.1 r247.2.2.2.2.2.1 r247.2.2.2.2.2.2.1 r247.2.2.2.2.2.2.2 26 ((mget tabl_2.boxes p_2.Name).getD 0) 0).bind fun r320 =>
                some (r320.2.1, r320.2.2.1, r320.2.2.2.1, r320.2.2.2.2.1, r320.2.2.2.2.2.1, r320.2.2.2.2.2.2.1, r320.2.2.2.2.2.2.2)
              else
                if p_2.Kind = 8 then
                  (gen_put tabl_2 r247.2.1 r247.2.2.1 r247.2.2.2.1 r247.2.2.2.2.1 r247.2.2.2.2.2.1 r247.2.2.2.2.2.2.1 r247.2.2.2.2.2.2.2 28 0 0).bind fun r333 =>
                  some (r333.2.1, r333.2.2.1, r333.2.2.2.1, r333.2.2.2.2.1, r333.2.2.2.2.2.1, r333.2.2.2.2.2.2.1, r333.2.2.2.2.2.2.2)
                else
                  if p_2.Kind = 9 then
                    (gen_put tabl_2 r247.2.1 r247.2.2.1 r247.2.2.2.1 r247.2.2.2.2.1 r247.2.2.2.2.2.1 r247.2.2.2.2.2.2.1 r247.2.2.2.2.2.2.2 5 0 0).bind fun r346 =>
                    some (r346.2.1, r346.2.2.1, r346.2.2.2.1, r346.2.2.2.2.1, r346.2.2.2.2.2.1, r346.2.2.2.2.2.2.1, r346.2.2.2.2.2.2.2)
                  else
                    some (r247.2.1, r247.2.2.1, r247.2.2.2.1, r247.2.2.2.2.1, r247.2.2.2.2.2.1, r247.2.2.2.2.2.2.1, r247.2.2.2.2.2.2.2)
def GenS_run : Nat → GenS
  | 0 => ⟨fun _ _ _ _ _ _ _ _ _ => none, fun _ _ _ _ _ _ _ _ _ => none⟩
  | n + 1 => ⟨gen_body (GenS_run n), gen_stat n (GenS_run n)⟩
def gen_unit_j5 (p_1 : TGt) (l230 : List (List (List UInt8 × Int))) (i232 i233 i234 i235 : Int) (l238 : List Int) (l242 : List TInstr) : Option TUnit :=
  (gen_put p_1 i232 i233 l238 i234 i235 l242 l230 24 0 0).bind fun r273 =>
  some (TUnit.mk r273.2.1 r273.2.2.1 r273.2.2.2.1 r273.2.2.2.2.1 r273.2.2.2.2.2.1 r273.2.2.2.2.2.2.1)
def gen_unit_j4 (fu : Nat) (p_1 : TGt) (p_2 : TDef) (l38 : List (List (List UInt8 × Int))) (i40 i41 i42 : Int) (l46 : List Int) (l50 : List TInstr) (i187 : Int) : Option TUnit :=
  ((GenS_run fu).gen_body p_1 i40 i41 l46 i42 i187 l50 l38 p_2.Body).bind fun r193 =>
  if p_2.Kind ≠ 2 then
    (gen_put p_1 r193.1 r193.2.1 r193.2.2.1 r193.2.2.2.1 r193.2.2.2.2.1 r193.2.2.2.2.2.1 r193.2.2.2.2.2.2 25 0 0).bind fun r206 =>
    some (TUnit.mk r206.2.1 r206.2.2.1 r206.2.2.2.1 r206.2.2.2.2.1 r206.2.2.2.2.2.1 r206.2.2.2.2.2.2.1)
  else
    if r193.2.2.2.1 = 2 then
      (gen_put p_1 r193.1 r193.2.1 r193.2.2.1 r193.2.2.2.1 r193.2.2.2.2.1 r193.2.2.2.2.2.1 r193.2.2.2.2.2.2 2 0 0).bind fun r245 =>
      gen_unit_j5 p_1 r245.2.2.2.2.2.2.2 r245.2.1 r245.2.2.1 r245.2.2.2.2.1 r245.2.2.2.2.2.1 r245.2.2.2.1 r245.2.2.2.2.2.2.1
    else
      (gen_put p_1 r193.1 r193.2.1 r193.2.2.1 r193.2.2.2.1 r193.2.2.2.2.1 r193.2.2.2.2.2.1 r193.2.2.2.2.2.2 1 0 0).bind fun r257 =>
      gen_unit_j5 p_1 r257.2.2.2.2.2.2.2 r257.2.1 r257.2.2.1 r257.2.2.2.2.1 r257.2.2.2.2.2.1 r257.2.2.2.1 r257.2.2.2.2.2.2.1
def gen_unit_j1 (fu : Nat) (p_1 : TGt) (p_2 : TDef) (l38 : List (List (List UInt8 × Int))) (i40 i41 i42 i43 : Int) (l46 : List Int) (l50 : List TInstr) : Option TUnit :=
  if p_2.Kind = 3 then
    (gen_typ p_1 p_2.Takes).bind fun r189 =>
    gen_unit_j4 fu p_1 p_2 l38 i40 i41 i42 l46 l50 r189
  else
    gen_unit_j4 fu p_1 p_2 l38 i40 i41 i42 l46 l50 i43
def gen_unit_j3 (i87 : Int) (k_gen_unit_l1 : Int → (List (List (List UInt8 × Int))) → Int → Int → Int → Int → (List Int) → (List TInstr) → Option TUnit) (l148 : List (List (List UInt8 × Int))) (i150 i151 i152 i153 : Int) (l156 : List Int) (l160 : List TInstr) : Option TUnit :=
  (i64 (i87 + 1)).bind fun i181 =>
  k_gen_unit_l1 i181 l148 i150 i151 i152 i153 l156 l160
def gen_unit_l1 (fu : Nat) (p_1 : TGt) (p_2 : TDef) : Nat → Int → (List (List (List UInt8 × Int))) → Int → Int → Int → Int → (List Int) → (List TInstr) → Option TUnit
  | 0, _, _, _, _, _, _, _, _ => none
  | n + 1, i87, l90, i92, i93, i94, i95, l98, l102 =>
    if i87 < (p_2.Params.length : Int) then
      (at_ p_2.Params i87).bind fun x136 =>
      (gen_typ p_1 x136.Typ).bind fun r162 =>
      (gen_local p_1 i92 i93 l98 i94 i95 l102 l90 x136.Name r162).bind fun r165 =>
      gen_unit_j3 i87 (gen_unit_l1 fu p_1 p_2 n) r165.2.2.2.2.2.2.2 r165.2.1 r165.2.2.1 r165.2.2.2.2.1 r165.2.2.2.2.2.1 r165.2.2.2.1 r165.2.2.2.2.2.2.1
    else
      gen_unit_j1 fu p_1 p_2 l90 i92 i93 i94 i95 l98 l102
def gen_unit_j2 (fu : Nat) (p_1 : TGt) (p_2 : TDef) (i53 : Int) : Option TUnit :=
  gen_unit_l1 fu p_1 p_2 (p_2.Params.length + 1) 0 [([] : List (List UInt8 × Int))] p_2.Kind (p_2.Params.length : Int) i53 0 [] []
def gen_unit (fu : Nat)  (p_1 : TGt) (p_2 : TDef) : Option TUnit :=
  if p_2.Kind ≠ 4 then
    (gen_typ p_1 p_2.Typ).bind fun r54 =>
    gen_unit_j2 fu p_1 p_2 r54
  else
    gen_unit_j1 fu p_1 p_2 [([] : List (List UInt8 × Int))] p_2.Kind 0 0 0 [] []
def gen_compile_j1 (r14 : TFault)  : Option (TModule × TFault) :=
  some ((TModule.mk ([] : List TBi) ([] : List TUnit)), r14)
def gen_compile_j3 (i163 : Int) (l170 : List (List UInt8 × Int)) (l174 : List (List UInt8 × TDef)) (x317 x331 : TDef) (l365 : List (List UInt8 × Int)) (k_gen_compile_l1 : Int → (List (List UInt8 × Int)) → (List (List UInt8 × Int)) → (List (List UInt8 × TDef)) → (List TBi) → Option (TModule × TFault)) (l388 : List TBi) : Option (TModule × TFault) :=
  (i64 (i163 + 1)).bind fun i430 =>
  k_gen_compile_l1 i430 l365 l170 (mput l174 x317.Name x331) l388
def gen_compile_j2 (p_1 : List TDef) (i163 : Int) (l170 : List (List UInt8 × Int)) (l174 : List (List UInt8 × TDef)) (l178 : List TBi) (x317 x331 : TDef) (k_gen_compile_l1 : Int → (List (List UInt8 × Int)) → (List (List UInt8 × Int)) → (List (List UInt8 × TDef)) → (List TBi) → Option (TModule × TFault)) (l365 : List (List UInt8 × Int)) : Option (TModule × TFault) :=
  (at_ p_1 i163).bind fun x390 =>
  (at_ p_1 i163).bind fun x404 =>
  (gen_typo l365 l170 (mput l174 x317.Name x331) x390.Typ).bind fun r418 =>
  (app l178 [(TBi.mk r418 x404.Cap)]).bind fun l425 =>
  gen_compile_j3 i163 l170 l174 x317 x331 l365 k_gen_compile_l1 l425
def gen_compile_j4 (i163 : Int) (l166 : List (List UInt8 × Int)) (l174 : List (List UInt8 × TDef)) (l178 : List TBi) (x317 x331 : TDef) (k_gen_compile_l1 : Int → (List (List UInt8 × Int)) → (List (List UInt8 × Int)) → (List (List UInt8 × TDef)) → (List TBi) → Option (TModule × TFault)) (l434 : List (List UInt8 × Int)) : Option (TModule × TFault) :=
  (i64 (i163 + 1)).bind fun i455 =>
  k_gen_compile_l1 i455 l166 l434 (mput l174 x317.Name x331) l178
def gen_compile_j5 (i520 : Int) (l523 : List TUnit) (r613 : TUnit) (k_gen_compile_l2 : Int → (List TUnit) → Option (TModule × TFault)) (b624 : Bool) : Option (TModule × TFault) :=
  if b624 = true then
    some ((TModule.mk ([] : List TBi) ([] : List TUnit)), (TFault.mk 5 i520))
  else
    (app l523 [r613]).bind fun l632 =>
    (i64 (i520 + 1)).bind fun i635 =>
    k_gen_compile_l2 i635 l632
def gen_compile_l2 (fu : Nat) (p_1 : List TDef) (l166 l170 : List (List UInt8 × Int)) (l174 : List (List UInt8 × TDef)) (l178 : List TBi) : Nat → Int → (List TUnit) → Option (TModule × TFault)
  | 0, _, _ => none
  | n + 1, i520, l523 =>
    if i520 < (p_1.length : Int) then
      (at_ p_1 i520).bind fun x582 =>
      if x582.Kind = 1 then
        (i64 (i520 + 1)).bind fun i597 =>
        gen_compile_l2 fu p_1 l166 l170 l174 l178 n i597 l523
      else
        (at_ p_1 i520).bind fun x599 =>
        (gen_unit fu (TGt.mk l166 l170 l174) x599).bind fun r613 =>
        if (200 : Int) < (r613.Locals.length : Int) then
          gen_compile_j5 i520 l523 r613 (gen_compile_l2 fu p_1 l166 l170 l174 l178 n) true
        else
          gen_compile_j5 i520 l523 r613 (gen_compile_l2 fu p_1 l166 l170 l174 l178 n) (decide ((4000 : Int) < (r613.Code.length : Int)))
    else
      some ((TModule.mk l178 l523), (TFault.mk 0 0))
def gen_compile_l1 (fu : Nat) (p_1 : List TDef) : Nat → Int → (List (List UInt8 × Int)) → (List (List UInt8 × Int)) → (List (List UInt8 × TDef)) → (List TBi) → Option (TModule × TFault)
  | 0, _, _, _, _, _ => none
  | n + 1, i163, l166, l170, l174, l178 =>
    if i163 < (p_1.length : Int) then
      (at_ p_1 i163).bind fun x317 =>
      (at_ p_1 i163).bind fun x331 =>
      (at_ p_1 i163).bind fun x348 =>
      if x348.Kind = 1 then
        (at_ p_1 i163).bind fun x367 =>
        gen_compile_j2 p_1 i163 l170 l174 l178 x317 x331 (gen_compile_l1 fu p_1 n) (mput l166 x367.Name (l166.length : Int))
      else
        (at_ p_1 i163).bind fun x436 =>
        gen_compile_j4 i163 l166 l174 l178 x317 x331 (gen_compile_l1 fu p_1 n) (mput l170 x436.Name (l170.length : Int))
    else
      gen_compile_l2 fu p_1 l166 l170 l174 l178 (p_1.length + 1) 0 []
def gen_compile (fu : Nat)  (p_1 : List TDef) : Option (TModule × TFault) :=
  (sema_check fu p_1).bind fun r14 =>
  if r14.Err ≠ 0 then
    gen_compile_j1 r14
  else
    gen_compile_l1 fu p_1 (p_1.length + 1) 0 ([] : List (List UInt8 × Int)) ([] : List (List UInt8 × Int)) ([] : List (List UInt8 × TDef)) []
end Go.Y
namespace Go.Y
open Go.Wk Go.Xt
def l8_alive (fu : Nat)   : Option Bool :=
  (syn_read fu [116, 97, 115, 107, 32, 116, 32, 123, 32, 111, 117, 116, 32, 49, 32, 43, 32, 50, 32, 59, 32, 125]).bind fun r1 =>
  (gen_compile fu r1.1).bind fun r9 =>
  if r1.2.Err = 0 then
    if r9.2.Err = 0 then
      if (r9.1.Units.length : Int) = 1 then
        (at_ r9.1.Units 0).bind fun x25 =>
        if (x25.Code.length : Int) = 5 then
          (at_ r9.1.Units 0).bind fun x40 =>
          (at_ x40.Code 2).bind fun x54 =>
          some (decide (x54.Op = 8))
        else
          some false
      else
        some false
    else
      some false
  else
    some false
def law_counts_j1 (i72 i73 i74 : Int) (k_law_counts_l1 : Int → Int → Int → Option Bool) (b144 : Bool) : Option Bool :=
  if b144 = true then
    some false
  else
    (i64 (i72 + 1)).bind fun i156 =>
    (i64 (i74 + 1)).bind fun i158 =>
    k_law_counts_l1 i156 i73 i158
def law_counts_j2 (i72 i73 i74 : Int) (k_law_counts_l1 : Int → Int → Int → Option Bool) (b160 : Bool) : Option Bool :=
  if b160 = true then
    some false
  else
    (i64 (i73 + 1)).bind fun i178 =>
    (i64 (i74 + 1)).bind fun i180 =>
    k_law_counts_l1 i72 i178 i180
def law_counts_l1 (p_1 : List TDef) (r8 : TModule × TFault) : Nat → Int → Int → Int → Option Bool
  | 0, _, _, _ => none
  | n + 1, i72, i73, i74 =>
    if i74 < (p_1.length : Int) then
      (at_ p_1 i74).bind fun x127 =>
      if x127.Kind = 1 then
        if (r8.1.Boxes.length : Int) ≤ i72 then
          law_counts_j1 i72 i73 i74 (law_counts_l1 p_1 r8 n) true
        else
          (at_ r8.1.Boxes i72).bind fun x146 =>
          law_counts_j1 i72 i73 i74 (law_counts_l1 p_1 r8 n) (!(andL [(decide (x146.Typ = x127.Typ.Kind)), (decide (x146.Cap = x127.Cap))]))
      else
        if (r8.1.Units.length : Int) ≤ i73 then
          law_counts_j2 i72 i73 i74 (law_counts_l1 p_1 r8 n) true
        else
          (at_ r8.1.Units i73).bind fun x162 =>
          law_counts_j2 i72 i73 i74 (law_counts_l1 p_1 r8 n) (decide (x162.Kind ≠ x127.Kind))
    else
      if i72 = (r8.1.Boxes.length : Int) then
        some (decide (i73 = (r8.1.Units.length : Int)))
      else
        some false
def law_counts (fu : Nat)  (p_1 : List TDef) : Option Bool :=
  (l8_alive fu).bind fun r4 =>
  if r4 = true then
    (gen_compile fu p_1).bind fun r8 =>
    if r8.2.Err ≠ 0 then
      some true
    else
      law_counts_l1 p_1 r8 (p_1.length + 1) 0 0 0
  else
    some false
end Go.Y
namespace Go.Y
open Go.Wk Go.Xt
theorem bN0 {α β : Type} {f : α → Option β} : Option.bind (none : Option α) f = none := rfl
section
variable {fu : Nat} {l : List TDef}
theorem l3_inv (hl : l.length ≤ 30) (N : List (Nm × TDef)) (p : TSp) (f : TFault) : ∀ (m i : Nat), sema_named_l3 fu l N m i = some (p, f) → f.Err = 0 → p = ⟨l, N⟩ ∧ ∀ j (hj : j < l.length), i ≤ j → sema_body fu ⟨l, N⟩ l[j] = some 0 := by
  intro m
  induction m with
  | zero => intro i h; cases h
  | succ m ih =>
    intro i h hz
    rw [sema_named_l3] at h
    by_cases c : i < l.length
    · rw [if_pos (by omega), at_nat, List.getElem?_eq_getElem c, bS] at h
      cases e : sema_body fu ⟨l, N⟩ l[i] with
      | none => rw [e, bN0] at h; cases h
      | some r =>
        rw [e, bS] at h
        by_cases z : r ≠ 0
        · rw [if_pos z] at h
          obtain ⟨rfl, rfl⟩ := Prod.mk.inj (Option.some.inj h)
          exact absurd hz z
        · rw [if_neg z, i64_ok (by omega), bS] at h
          obtain ⟨h1, h2⟩ := ih (i + 1) h hz
          refine ⟨h1, fun j hj hij => ?_⟩
          by_cases q : j = i
          · subst q; rw [e, Decidable.not_not.1 z]
          · exact h2 j hj (by omega)
    · rw [if_neg (by omega)] at h
      obtain ⟨rfl, rfl⟩ := Prod.mk.inj (Option.some.inj h)
      exact ⟨rfl, fun j hj hij => by omega⟩
theorem l2_inv (hl : l.length ≤ 30) (N : List (Nm × TDef)) (p : TSp) (f : TFault) : ∀ (m i : Nat), sema_named_l2 fu l N m i = some (p, f) → f.Err = 0 → sema_named_l3 fu l N (l.length + 1) 0 = some (p, f) := by
  intro m
  induction m with
  | zero => intro i h; cases h
  | succ m ih =>
    intro i h hz
    rw [sema_named_l2] at h
    by_cases c : i < l.length
    · rw [if_pos (by omega), at_nat, List.getElem?_eq_getElem c, bS] at h
      cases e : sema_head ⟨l, N⟩ l[i] with
      | none => rw [e, bN0] at h; cases h
      | some r =>
        rw [e, bS] at h
        by_cases z : r ≠ 0
        · rw [if_pos z] at h
          obtain ⟨rfl, rfl⟩ := Prod.mk.inj (Option.some.inj h)
          exact absurd hz z
        · rw [if_neg z, i64_ok (by omega), bS] at h
          exact ih (i + 1) h hz
    · rw [if_neg (by omega)] at h
      exact h
theorem l1_inv (hl : l.length ≤ 30) (p : TSp) (f : TFault) : ∀ (m i : Nat) (t : Int) (N : List (Nm × TDef)), sema_named_l1 fu l m t i N = some (p, f) → f.Err = 0 → ∃ N, sema_named_l2 fu l N (l.length + 1) 0 = some (p, f) := by
  intro m
  induction m with
  | zero => intro i t N h; cases h
  | succ m ih =>
    intro i t N h hz
    rw [sema_named_l1] at h
    by_cases c : i < l.length
    · have e0 : at_ l (i : Int) = some l[i] := by rw [at_nat, List.getElem?_eq_getElem c]
      rw [if_pos (by omega), e0, bS] at h
      by_cases q : (mget N l[i].Name).isSome = true
      · rw [if_pos q] at h
        obtain ⟨rfl, rfl⟩ := Prod.mk.inj (Option.some.inj h)
        exact absurd hz (by show ¬ (7 : Int) = 0; decide)
      · rw [if_neg q, bS, bS, bS] at h
        by_cases k4 : l[i].Kind = 4
        · rw [if_pos k4] at h
          cases e : i64 (t + 1) with
          | none => rw [e, bN0] at h; cases h
          | some t' =>
            rw [e, bS, i64_ok (by omega), bS] at h
            exact ih (i + 1) t' _ h hz
        · rw [if_neg k4, i64_ok (by omega), bS] at h
          exact ih (i + 1) t _ h hz
    · rw [if_neg (by omega)] at h
      by_cases t0 : t = 0
      · rw [if_pos t0] at h
        obtain ⟨rfl, rfl⟩ := Prod.mk.inj (Option.some.inj h)
        exact absurd hz (by show ¬ (6 : Int) = 0; decide)
      · rw [if_neg t0] at h
        exact ⟨N, h⟩
theorem right_vars (hf : 500 ≤ fu) {p : TSp} {f : TFault} (h : sema_named fu l = some (p, f)) (hz : f.Err = 0) : Right p l ∧ ∀ d ∈ l, d.Kind ≠ 1 → LSV (CSV p 39) (d.Kind ≠ 4 ∧ d.Params ≠ []) d.Body := by
  obtain ⟨p', f', h1, h2⟩ := sema_named_t fu hf l
  rw [h] at h1
  obtain ⟨rfl, rfl⟩ := Prod.mk.inj (Option.some.inj h1)
  have R := h2 hz
  refine ⟨R, ?_⟩
  have hl := R.ok.le
  obtain ⟨g, g1, -⟩ := syn_wrong_t fu (by omega) l
  rw [sema_named, g1, bS] at h
  by_cases z : g.Err ≠ 0
  · rw [if_pos z] at h
    obtain ⟨-, rfl⟩ := Prod.mk.inj (Option.some.inj h)
    exact absurd hz z
  · rw [if_neg z] at h
    obtain ⟨N, h⟩ := l1_inv hl p f _ 0 0 _ h hz
    obtain ⟨rfl, hb⟩ := l3_inv hl N p f _ 0 (l2_inv hl N p f _ 0 h hz) hz
    intro d hd k1
    obtain ⟨j, hj, rfl⟩ := List.getElem_of_mem hd
    obtain ⟨e, e1, e2⟩ := bodyV fu hf ⟨l, N⟩ l[j] (fun k d hk => R.hd d (R.only k d hk).1) (R.hd _ hd) (R.ok.ok _ hd)
    rw [hb j hj (Nat.zero_le _)] at e1
    exact e2 (Option.some.inj e1).symm k1
end
end Go.Y
namespace Go.Y
open Go.Wk Go.Xt
abbrev Bi := List (List (Nm × Int))
structure TabOk (p : TSp) (T : TGt) : Prop where
  df : ∀ n d, mget p.named n = some d → mget T.defs n = some d
  un : ∀ n d, mget p.named n = some d → d.Kind ≠ 1 → ∃ u, mget T.units n = some u ∧ 0 ≤ u ∧ u ≤ 30
  uq : ∀ n u, mget T.units n = some u → mfind T.units u = some (some (n, u))
  u0 : ∀ y, y < 0 → mfind T.units y = some none
  ok : ∀ n d, mget p.named n = some d → OkD d ∧ HeadOk p d
def Ty (p : TSp) (T : TGt) (t : Int) : Prop := (0 ≤ t ∧ t ≤ 9) ∨ ∃ n d u, mget p.named n = some d ∧ d.Kind = 3 ∧ mget T.units n = some u ∧ t = 10 + u ∧ 0 ≤ u ∧ u ≤ 30
variable {p : TSp} {T : TGt}
theorem gen_typ_t (H : TabOk p T) {t : TType} (h : OkT t) (h3 : TyOk p t) : ∃ r, gen_typ T t = some r ∧ Ty p T r := by
  obtain ⟨a, b⟩ := h
  rw [gen_typ]
  by_cases c : t.Kind = 3
  · obtain ⟨d, d1, d2⟩ := h3 c
    obtain ⟨u, u1, u2, u3⟩ := H.un _ d d1 (by omega)
    rw [if_pos c, u1]
    show ∃ r, Option.bind (i64 (10 + u)) _ = some r ∧ _
    rw [i64_ok (by omega), bS]
    exact ⟨_, rfl, .inr ⟨_, d, u, d1, d2, u1, rfl, u2, u3⟩⟩
  · rw [if_neg c]
    exact ⟨_, rfl, .inl (by omega)⟩
theorem gen_typ_d (H : TabOk p T) {n : Nm} {d : TDef} (h : mget p.named n = some d) (k4 : d.Kind ≠ 4) : ∃ r, gen_typ T d.Typ = some r ∧ Ty p T r := by
  obtain ⟨o, hd⟩ := H.ok n d h
  exact gen_typ_t H (o.ty k4) (.of (hd.ty k4))
structure J (p : TSp) (T : TGt) (loca : List Int) (take : Int) (bloc : Bi) : Prop where
  lo : ∀ t ∈ loca, Ty p T t
  tk : Ty p T take
  bl : ∀ m ∈ bloc, ∀ n k, mget m n = some k → 0 ≤ k ∧ k < loca.length
  bn : bloc.length ≤ 100
  ln : loca.length ≤ 100000
theorem gen_put_e {kind para : Int} {loca : List Int} {resu take : Int} {code : List TInstr} {bloc : Bi} (a b c : Int) (h : code.length ≤ 2000000) :
    gen_put T kind para loca resu take code bloc a b c = some ((code.length : Int), kind, para, loca, resu, take, code ++ [⟨a, b, c⟩], bloc) := by
  rw [gen_put, app_ok (by simp; omega), bS, i64_ok (by simp; omega), bS]
  simp
theorem gen_look_t {kind para : Int} {loca : List Int} {resu take : Int} {code : List TInstr} {bloc : Bi} (j : J p T loca take bloc) (fu : Nat) (hf : 110 ≤ fu) (name : Nm) :
    ∃ k, gen_look fu T kind para loca resu take code bloc name = some k ∧ 0 ≤ k ∧ (loca ≠ [] → k < loca.length) := by
  have hb := j.bn
  have L : ∀ (n i : Nat), i ≤ bloc.length → i < n → ∃ k, gen_look_l1 name bloc n ((i : Int) - 1) = some k ∧ 0 ≤ k ∧ (loca ≠ [] → k < loca.length) := by
    intro n
    induction n with
    | zero => intro i h1 h2; omega
    | succ n ih =>
      intro i h1 h2
      rw [gen_look_l1]
      cases i with
      | zero =>
        rw [if_neg (by omega)]
        refine ⟨0, rfl, by omega, fun h => ?_⟩
        have := List.length_pos_iff.2 h
        omega
      | succ i =>
        have e : ((i + 1 : Nat) : Int) - 1 = (i : Int) := by omega
        rw [e, if_pos (by omega), at_nat, List.getElem?_eq_getElem (show i < bloc.length by omega), bS]
        cases h : mget bloc[i] name with
        | none =>
          rw [if_neg (by simp), i64_ok (by omega), bS]
          exact ih i (by omega) (by omega)
        | some t =>
          have := j.bl _ (List.getElem_mem _) _ _ h
          exact ⟨t, rfl, this.1, fun _ => this.2⟩
  rw [gen_look, i64_ok (by omega), bS]
  exact L fu bloc.length (by omega) (by omega)
theorem gen_expr_j1_t (H : TabOk p T) {k : Nat} {x : TExpr} {V : Prop} {kind para : Int} {loca : List Int} {resu take : Int} {code : List TInstr} {bloc : Bi} {ts : List Int} (hx : OkE (k + 1) x) (hc : CallsV p V (k + 1) x) (j : J p T loca take bloc) (hl : code.length ≤ 1000000) (ht : ts.length = x.Kids.length) (hts : ∀ t ∈ ts, Ty p T t)
    (n6 : ¬ (x.Kind ≤ 5)) (b : Bool) (hb : b = true ↔ x.Kind ≤ 18) : ∃ t i, gen_expr_j1 x T kind para resu take loca code bloc ts b = some (t, kind, para, loca, resu, take, code ++ [i], bloc) ∧ Ty p T t := by
  obtain ⟨k1, k24, hk, hks⟩ := hx
  obtain ⟨c19, c22, c20, -, -⟩ := hc
  have P := fun a b c => gen_put_e (T := T) (kind := kind) (para := para) (loca := loca) (resu := resu) (take := take) (bloc := bloc) a b c (show code.length ≤ 2000000 by omega)
  rw [gen_expr_j1]
  by_cases q : b = true
  · have := hb.1 q
    rw [if_pos q, i64_ok (by omega), bS, i64_ok (by omega), bS, P, bS]
    split
    · exact ⟨1, _, rfl, .inl (by omega)⟩
    · exact ⟨2, _, rfl, .inl (by omega)⟩
  have q18 : ¬ x.Kind ≤ 18 := fun h => q (hb.2 h)
  rw [if_neg q]
  by_cases d19 : x.Kind = 19
  · obtain ⟨d, d1, d2⟩ := c19 d19
    obtain ⟨r, r1, r2⟩ := gen_typ_d H d1 (by omega)
    rw [if_pos d19, P, bS, H.df _ _ d1, bS, r1, bS]
    exact ⟨r, _, rfl, r2⟩
  rw [if_neg d19]
  by_cases d20 : x.Kind = 20
  · obtain ⟨d, d1, d2⟩ := c20 d20
    obtain ⟨r, r1, r2⟩ := gen_typ_d H d1 (by omega)
    rw [if_pos d20, P, bS, H.df _ _ d1, bS, r1, bS]
    exact ⟨r, _, rfl, r2⟩
  rw [if_neg d20]
  by_cases d22 : x.Kind = 22
  · obtain ⟨d, d1, d2⟩ := c22 d22
    obtain ⟨u, u1, u2, u3⟩ := H.un _ d d1 (by omega)
    rw [if_pos d22, P, bS, u1]
    show ∃ t i, Option.bind (i64 (10 + u)) _ = _ ∧ _
    rw [i64_ok (by omega), bS]
    exact ⟨_, _, rfl, .inr ⟨_, d, u, d1, d2, u1, rfl, u2, u3⟩⟩
  rw [if_neg d22]
  by_cases d21 : x.Kind = 21
  · rw [if_pos d21, P, bS]
    exact ⟨take, _, rfl, j.tk⟩
  rw [if_neg d21]
  by_cases d24 : x.Kind = 24
  · rw [if_pos d24, P, bS]
    exact ⟨2, _, rfl, .inl (by omega)⟩
  rw [if_neg d24]
  have d23 : x.Kind = 23 := by omega
  have h2 : x.Kids.length = 2 := by have := hk.eq (by rw [d23]; decide); rw [d23] at this; have e : kidN 23 = 2 := by decide
                                    omega
  have h0 : 0 < ts.length := by omega
  rw [P, bS, at_0 h0, bS]
  rcases hts _ (List.getElem_mem h0) with ⟨a1, a2⟩ | ⟨n, d, u, e1, e2, e3, e4, e5, e6⟩
  · rw [i64_ok (by omega), bS, H.u0 _ (by omega), bS]
    exact ⟨0, _, rfl, .inl (by omega)⟩
  · rw [i64_ok (by omega), bS, e4, show (10 + u - 10 : Int) = u by omega, H.uq _ _ e3, bS]
    obtain ⟨r, r1, r2⟩ := gen_typ_d H e1 (by omega)
    rw [if_pos (show (some (n, u) : Option (Nm × Int)).isSome = true from rfl)]
    show ∃ t i, Option.bind (mget T.defs n) _ = _ ∧ _
    rw [H.df _ _ e1, bS, r1, bS]
    exact ⟨r, _, rfl, r2⟩
theorem gen_expr_t (H : TabOk p T) : ∀ (n k : Nat) (x : TExpr) (V : Prop) (kind para : Int) (loca : List Int) (resu take : Int) (code : List TInstr) (bloc : Bi), 130 + k ≤ n → OkE k x → CallsV p V k x → (V → loca ≠ []) → J p T loca take bloc → code.length + nE k x ≤ 1000000 →
    ∃ t c', (GenE_run n).gen_expr T kind para loca resu take code bloc x = some (t, kind, para, loca, resu, take, code ++ c', bloc) ∧ c'.length = nE k x ∧ Ty p T t := by
  intro n
  induction n with
  | zero => intro k x V kind para loca resu take code bloc h; omega
  | succ n ih =>
    intro k x V kind para loca resu take code bloc hn hx hc hV j hl
    cases k with
    | zero => cases hx
    | succ k =>
    show ∃ t c', gen_expr n (GenE_run n) T kind para loca resu take code bloc x = _ ∧ _
    have hx' := hx
    have hc' := hc
    obtain ⟨k1, k24, hk, hks⟩ := hx
    obtain ⟨c19, c22, c20, c3, hcs⟩ := hc
    have hk6 := hk.le
    rw [nE] at hl ⊢
    rw [gen_expr]
    have L : ∀ (m i : Nat) (code : List TInstr) (ts : List Int), i ≤ x.Kids.length → x.Kids.length < m + i → ts.length = i → (∀ t ∈ ts, Ty p T t) → code.length + (((x.Kids.drop i).map (nE k)).sum + 1) ≤ 1000000 →
        ∃ t c', gen_expr_l1 n (GenE_run n) x T m i kind para resu take loca code bloc ts = some (t, kind, para, loca, resu, take, code ++ c', bloc) ∧ c'.length = ((x.Kids.drop i).map (nE k)).sum + 1 ∧ Ty p T t := by
      intro m
      induction m with
      | zero => intro i code ts h1 h2; omega
      | succ m ihm =>
        intro i code ts h1 h2 h3 h4 h5
        rw [gen_expr_l1]
        by_cases c : i < x.Kids.length
        · have hm : x.Kids[i] ∈ x.Kids := List.getElem_mem _
          rw [List.drop_eq_getElem_cons c, List.map_cons, List.sum_cons] at h5 ⊢
          obtain ⟨t, c1, e1, e2, e3⟩ := ih k x.Kids[i] V kind para loca resu take code bloc (by omega) (hks _ hm) (hcs _ hm) hV j (by omega)
          rw [if_pos (by omega), at_nat, List.getElem?_eq_getElem c, bS, e1, bS]
          simp only []
          rw [app_ok (by simp; omega), bS, i64_ok (by omega), bS]
          obtain ⟨t', c2, f1, f2, f3⟩ := ihm (i + 1) (code ++ c1) (ts ++ [t]) c (by omega) (by simp [h3]) (fun u hu => by
            rcases List.mem_append.1 hu with hu | hu
            · exact h4 u hu
            · rw [List.mem_singleton.1 hu]; exact e3) (by rw [List.length_append]; omega)
          refine ⟨t', c1 ++ c2, ?_, by rw [List.length_append]; omega, f3⟩
          rw [← List.append_assoc]
          exact f1
        · have hd : x.Kids.drop i = [] := List.drop_eq_nil_of_le (by omega)
          rw [hd] at h5 ⊢
          simp only [List.map_nil, List.sum_nil] at h5 ⊢
          have P := fun a b c => gen_put_e (T := T) (kind := kind) (para := para) (loca := loca) (resu := resu) (take := take) (bloc := bloc) a b c (show code.length ≤ 2000000 by omega)
          rw [if_neg (by omega)]
          by_cases d1 : x.Kind = 1
          · rw [if_pos d1, P, bS]; exact ⟨1, [_], rfl, rfl, .inl (by omega)⟩
          rw [if_neg d1]
          by_cases d2 : x.Kind = 2
          · rw [if_pos d2, P, bS]; exact ⟨2, [_], rfl, rfl, .inl (by omega)⟩
          rw [if_neg d2]
          by_cases d3 : x.Kind = 3
          · have hne := hV (c3 d3)
            obtain ⟨i, e1, e2, e3⟩ := gen_look_t (kind := kind) (para := para) (resu := resu) (code := code) j n (by omega) x.Name
            have e3 := e3 hne
            obtain ⟨i', rfl⟩ : ∃ i' : Nat, i = (i' : Int) := ⟨i.toNat, by omega⟩
            rw [if_pos d3, e1, bS, P, bS]
            simp only []
            rw [at_nat, List.getElem?_eq_getElem (show i' < loca.length by omega), bS]
            exact ⟨_, [_], rfl, rfl, j.lo _ (List.getElem_mem _)⟩
          rw [if_neg d3]
          by_cases d4 : x.Kind = 4
          · rw [if_pos d4, P, bS]; exact ⟨1, [_], rfl, rfl, .inl (by omega)⟩
          rw [if_neg d4]
          by_cases d5 : x.Kind = 5
          · rw [if_pos d5, P, bS]; exact ⟨2, [_], rfl, rfl, .inl (by omega)⟩
          rw [if_neg d5, if_pos (by omega)]
          obtain ⟨t, i, e1, e2⟩ := gen_expr_j1_t (kind := kind) (para := para) (resu := resu) H hx' hc' j (show code.length ≤ 1000000 by omega) (show ts.length = x.Kids.length by omega) h4 (by omega) (decide (x.Kind ≤ 18)) (by simp)
          exact ⟨t, [i], e1, rfl, e2⟩
    obtain ⟨t, c', e1, e2, e3⟩ := L (x.Kids.length + 1) 0 code [] (by omega) (by omega) rfl (by simp) (by rw [List.drop_zero]; omega)
    refine ⟨t, c', e1, ?_, e3⟩
    rw [e2, List.drop_zero]
    omega
structure Left (p : TSp) (T : TGt) (loca : List Int) (take : Int) (code : List TInstr) (b q : Nat) (loca' : List Int) (code' : List TInstr) (bloc' : Bi) : Prop where
  j : J p T loca' take bloc'
  b : bloc'.length = b
  c : code.length ≤ code'.length
  c' : code'.length ≤ code.length + 4 * q
  l : loca.length ≤ loca'.length
  l' : loca'.length ≤ loca.length + q
theorem Left.ne {loca loca' : List Int} {take : Int} {code code' : List TInstr} {b q : Nat} {bloc' : Bi} (h : Left p T loca take code b q loca' code' bloc') (hn : loca ≠ []) : loca' ≠ [] := by
  have := h.l
  have := List.length_pos_iff.2 hn
  exact List.length_pos_iff.1 (by omega)
theorem J.take {loca : List Int} {take : Int} {bloc : Bi} (j : J p T loca take bloc) (n : Nat) : J p T loca take (bloc.take n) :=
  ⟨j.lo, j.tk, fun m hm => j.bl m (List.mem_of_mem_take hm), by have := j.bn; rw [List.length_take]; omega, j.ln⟩
theorem gen_local_t {kind para : Int} {loca : List Int} {resu take : Int} {code : List TInstr} {bloc : Bi} (j : J p T loca take bloc) (name : Nm) (t : Int) (ht : Ty p T t) (hb : 0 < bloc.length) (hl : loca.length < 100000) :
    ∃ bloc', gen_local T kind para loca resu take code bloc name t = some ((loca.length : Int), kind, para, loca ++ [t], resu, take, code, bloc') ∧ bloc'.length = bloc.length ∧ J p T (loca ++ [t]) take bloc' := by
  have hbn := j.bn
  have hlt : bloc.length - 1 < bloc.length := by omega
  have e1 : (bloc.length : Int) - 1 = ((bloc.length - 1 : Nat) : Int) := by omega
  refine ⟨bloc.set (bloc.length - 1) (mput bloc[bloc.length - 1] name (loca.length : Int)), ?_, by simp, ?_, j.tk, ?_, by simpa using j.bn, by simp; omega⟩
  · rw [gen_local, app_ok (by simp; omega), bS, i64_ok (by simp; omega), bS, i64_ok (by omega), bS, e1, at_nat, List.getElem?_eq_getElem hlt, bS]
    simp
  · intro u hu
    rcases List.mem_append.1 hu with hu | hu
    · exact j.lo u hu
    · rw [List.mem_singleton.1 hu]; exact ht
  · intro m hm n k hk
    rw [List.length_append, List.length_singleton]
    rcases List.mem_or_eq_of_mem_set hm with hm | rfl
    · have := j.bl m hm n k hk; omega
    · rw [mget_mput] at hk
      split at hk
      · obtain rfl := Option.some.inj hk; omega
      · have := j.bl _ (List.getElem_mem hlt) n k hk; omega
structure GenT (p : TSp) (T : TGt) (n : Nat) : Prop where
  body : ∀ (k : Nat) (l : List TStat) (V : Prop) (kind para : Int) (loca : List Int) (resu take : Int) (code : List TInstr) (bloc : Bi), l.length ≤ 50 → (∀ y ∈ l, OkS k y) → LSV (CSV p k) V l → bloc.length + k ≤ 90 → 5 * k + 160 ≤ n → (V → loca ≠ []) → J p T loca take bloc → code.length + 4 * (l.map (nS k)).sum ≤ 100000 → loca.length + (l.map (nS k)).sum ≤ 100000 →
    ∃ loca' code' bloc', (GenS_run n).gen_body T kind para loca resu take code bloc l = some (kind, para, loca', resu, take, code', bloc') ∧ Left p T loca take code bloc.length (l.map (nS k)).sum loca' code' bloc'
  stat : ∀ (k : Nat) (s : TStat) (V : Prop) (kind para : Int) (loca : List Int) (resu take : Int) (code : List TInstr) (bloc : Bi), OkS k s → CSV p k V s → 0 < bloc.length → bloc.length + k ≤ 91 → 5 * k + 159 ≤ n → (V → loca ≠ []) → J p T loca take bloc → code.length + 4 * nS k s ≤ 100000 → loca.length + nS k s ≤ 100000 →
    ∃ loca' code' bloc', (GenS_run n).gen_stat T kind para loca resu take code bloc s = some (kind, para, loca', resu, take, code', bloc') ∧ Left p T loca take code bloc.length (nS k s) loca' code' bloc' ∧ (s.Kind = 1 → loca' ≠ [])
theorem cut_last {α : Type} {l : List α} (h : 0 < l.length) : cut l 0 ((l.length : Int) - 1) = some (l.take (l.length - 1)) := by
  rw [cut, if_pos (by omega)]
  simp
theorem genT (H : TabOk p T) : ∀ n, GenT p T n := by
  intro n
  induction n with
  | zero => exact ⟨fun _ _ _ _ _ _ _ _ _ _ _ _ _ _ h => by omega, fun _ _ _ _ _ _ _ _ _ _ _ _ _ _ h => by omega⟩
  | succ n ih =>
    refine ⟨fun k l V kind para loca resu take code bloc hl hx hv hb hn hV j hc hlo => ?_, fun k s V kind para loca resu take code bloc hx hv h0 hb hn hV j hc hlo => ?_⟩
    · show ∃ loca' code' bloc', gen_body (GenS_run n) T kind para loca resu take code bloc l = _ ∧ _
      have hbn := j.bn
      rw [gen_body, app_ok (by simp; omega), bS]
      have L : ∀ (m i : Nat) (V : Prop) (loca : List Int) (code : List TInstr) (bl : Bi), i ≤ l.length → l.length < m + i → LSV (CSV p k) V (l.drop i) → (V → loca ≠ []) → bl.length = bloc.length + 1 → J p T loca take bl → code.length + 4 * ((l.drop i).map (nS k)).sum ≤ 100000 → loca.length + ((l.drop i).map (nS k)).sum ≤ 100000 →
          ∃ loca' code' bloc', gen_body_l1 (GenS_run n) l T m i kind para resu take loca code bl = some (kind, para, loca', resu, take, code', bloc') ∧ Left p T loca take code bloc.length ((l.drop i).map (nS k)).sum loca' code' bloc' := by
        intro m
        induction m with
        | zero => intro i V loca code bl h1 h2; omega
        | succ m ihm =>
          intro i V loca code bl h1 h2 hv hV hbl j hc hlo
          rw [gen_body_l1]
          by_cases c : i < l.length
          · have hm : l[i] ∈ l := List.getElem_mem _
            rw [List.drop_eq_getElem_cons c] at hv
            rw [List.drop_eq_getElem_cons c, List.map_cons, List.sum_cons] at hc hlo ⊢
            obtain ⟨v1, v2⟩ := hv
            obtain ⟨loca1, code1, bl1, e1, e2, e3⟩ := ih.stat k l[i] V kind para loca resu take code bl (hx _ hm) v1 (by omega) (by omega) (by omega) hV j (by omega) (by omega)
            have a1 := e2.b; have a2 := e2.c; have a3 := e2.c'; have a4 := e2.l; have a5 := e2.l'
            rw [if_pos (by omega), at_nat, List.getElem?_eq_getElem c, bS, e1, bS]
            simp only []
            rw [i64_ok (by omega), bS]
            obtain ⟨loca2, code2, bl2, f1, f2⟩ := ihm (i + 1) _ loca1 code1 bl1 c (by omega) v2 (fun q => q.elim (fun q => e2.ne (hV q)) e3) (by omega) e2.j (by omega) (by omega)
            have b1 := f2.b; have b2 := f2.c; have b3 := f2.c'; have b4 := f2.l; have b5 := f2.l'
            exact ⟨loca2, code2, bl2, f1, f2.j, b1, by omega, by omega, by omega, by omega⟩
          · have hd : l.drop i = [] := List.drop_eq_nil_of_le (by omega)
            rw [hd] at hc hlo ⊢
            rw [if_neg (by omega), i64_ok (by omega), bS, cut_last (by omega), bS]
            exact ⟨loca, code, _, rfl, j.take _, by rw [List.length_take]; omega, Nat.le_refl _, by omega, Nat.le_refl _, by omega⟩
      have := L (l.length + 1) 0 V loca code (bloc ++ [[]]) (by omega) (by omega) hv hV (by simp) ⟨j.lo, j.tk, (fun m hm n k hk => by
        rcases List.mem_append.1 hm with hm | hm
        · exact j.bl m hm n k hk
        · rw [List.mem_singleton.1 hm] at hk; cases hk), by rw [List.length_append]; simp; omega, j.ln⟩ hc hlo
      exact this
    · show ∃ loca' code' bloc', gen_stat n (GenS_run n) T kind para loca resu take code bloc s = _ ∧ _
      cases k with
      | zero => cases hx
      | succ k =>
      obtain ⟨k1, k9, hX, hbd, hel⟩ := hx
      obtain ⟨vX, vB, vE, v7, v2⟩ := hv
      have hQ : nS (k + 1) s = 1 + (if s.Kind = 6 then 0 else nE k s.X) + (if s.Kind = 3 ∨ s.Kind = 4 then (s.Body.map (nS k)).sum else 0) + (if s.Kind = 3 then (s.Else.map (nS k)).sum else 0) := rfl
      generalize nS (k + 1) s = Q at hc hlo hQ ⊢
      have P := fun (kind para : Int) (loca : List Int) (resu take : Int) (code : List TInstr) (bloc : Bi) (a b c : Int) (h : code.length ≤ 2000000) => gen_put_e (T := T) (kind := kind) (para := para) (loca := loca) (resu := resu) (take := take) (bloc := bloc) a b c h
      have E : s.Kind ≠ 6 → ∃ t c', (GenE_run n).gen_expr T kind para loca resu take code bloc s.X = some (t, kind, para, loca, resu, take, code ++ c', bloc) ∧ c'.length = nE k s.X ∧ Ty p T t := fun h => by
        rw [if_neg h] at hQ
        exact gen_expr_t H n k s.X V kind para loca resu take code bloc (by omega) (hX h) (vX h) hV j (by omega)
      rw [gen_stat]
      by_cases d3 : s.Kind = 3
      · obtain ⟨t, c1, e1, e2, e3⟩ := E (by omega)
        obtain ⟨b1, b2⟩ := hbd (.inl d3)
        obtain ⟨b3, b4⟩ := hel d3
        rw [if_neg (by omega), if_pos (.inl d3), if_pos d3] at hQ
        rw [if_pos d3, e1, bS]
        simp only []
        rw [P _ _ _ _ _ (code ++ c1) _ _ _ _ (by simp; omega), bS]
        simp only []
        obtain ⟨loca1, code3, bl1, f1, f2⟩ := ih.body k s.Body V kind para loca resu take (code ++ c1 ++ [⟨22, 0, 0⟩]) bloc b1 b2 (vB (.inl d3)) (by omega) (by omega) hV j (by simp; omega) (by omega)
        have g1 := f2.b; have g2 := f2.c; have g3 := f2.c'; have g4 := f2.l; have g5 := f2.l'
        simp only [List.length_append, List.length_singleton] at g2 g3
        rw [f1, bS]
        simp only []
        rw [P _ _ _ _ _ code3 _ _ _ _ (by omega), bS, gen_here, bS]
        simp only []
        have q1 : (code ++ c1).length < (code3 ++ [(⟨21, 0, 0⟩ : TInstr)]).length := by simp; omega
        rw [at_nat, List.getElem?_eq_getElem q1, bS, gen_stat_j1]
        simp only []
        generalize hC5 : (code3 ++ [(⟨21, 0, 0⟩ : TInstr)]).set _ _ = code5
        have h5 : code5.length = code3.length + 1 := by rw [← hC5]; simp
        obtain ⟨loca2, code6, bl2, r1, r2⟩ := ih.body k s.Else V kind para loca1 resu take code5 bl1 b3 b4 (vE d3) (by omega) (by omega) (fun q => f2.ne (hV q)) f2.j (by omega) (by omega)
        have s1 := r2.b; have s2 := r2.c; have s3 := r2.c'; have s4 := r2.l; have s5 := r2.l'
        rw [r1, bS, gen_here, bS]
        simp only []
        rw [at_nat, List.getElem?_eq_getElem (show code3.length < code6.length by omega), bS, gen_stat_j2]
        exact ⟨loca2, _, bl2, rfl, ⟨r2.j, by omega, by rw [List.length_set]; omega, by rw [List.length_set]; omega, by omega, by omega⟩, fun h => by omega⟩
      rw [if_neg d3]
      by_cases d4 : s.Kind = 4
      · obtain ⟨t, c1, e1, e2, e3⟩ := E (by omega)
        obtain ⟨b1, b2⟩ := hbd (.inr d4)
        rw [if_neg (by omega), if_pos (.inr d4), if_neg d3] at hQ
        rw [if_pos d4, gen_here, bS, e1, bS]
        simp only []
        rw [P _ _ _ _ _ (code ++ c1) _ _ _ _ (by simp; omega), bS]
        simp only []
        obtain ⟨loca1, code3, bl1, f1, f2⟩ := ih.body k s.Body V kind para loca resu take (code ++ c1 ++ [⟨22, 0, 0⟩]) bloc b1 b2 (vB (.inr d4)) (by omega) (by omega) hV j (by simp; omega) (by omega)
        have g1 := f2.b; have g2 := f2.c; have g3 := f2.c'; have g4 := f2.l; have g5 := f2.l'
        simp only [List.length_append, List.length_singleton] at g2 g3
        rw [f1, bS]
        simp only []
        rw [P _ _ _ _ _ code3 _ _ _ _ (by omega), bS, gen_here, bS]
        simp only []
        have q1 : (code ++ c1).length < (code3 ++ [(⟨21, (code.length : Int), 0⟩ : TInstr)]).length := by simp; omega
        rw [at_nat, List.getElem?_eq_getElem q1, bS, gen_stat_j3]
        exact ⟨loca1, _, bl1, rfl, ⟨f2.j, by omega, by simp; omega, by simp; omega, by omega, by omega⟩, fun h => by omega⟩
      rw [if_neg d4]
      rw [if_neg (show ¬ (s.Kind = 3 ∨ s.Kind = 4) by omega), if_neg d3] at hQ
      by_cases d6 : s.Kind = 6
      · rw [if_pos d6] at hQ
        rw [if_pos d6, P _ _ _ _ _ code _ _ _ _ (by omega), bS]
        exact ⟨loca, _, bloc, rfl, ⟨j, rfl, by simp only [List.length_append, List.length_singleton]; omega, by simp only [List.length_append, List.length_singleton]; omega, Nat.le_refl _, by omega⟩, fun h => by omega⟩
      rw [if_neg d6]
      rw [if_neg d6] at hQ
      obtain ⟨t, c1, e1, e2, e3⟩ := E d6
      rw [e1, bS]
      simp only []
      by_cases d1 : s.Kind = 1
      · obtain ⟨bl1, f1, f2, f3⟩ := gen_local_t (kind := kind) (para := para) (resu := resu) (code := code ++ c1) j s.Name t e3 h0 (by omega)
        rw [if_pos d1, f1, bS]
        simp only []
        rw [P _ _ _ _ _ (code ++ c1) _ _ _ _ (by simp; omega), bS]
        exact ⟨loca ++ [t], _, bl1, rfl, ⟨f3, f2, by simp only [List.length_append, List.length_singleton]; omega, by simp only [List.length_append, List.length_singleton]; omega, by simp only [List.length_append, List.length_singleton]; omega, by simp only [List.length_append, List.length_singleton]; omega⟩, fun _ => by simp⟩
      rw [if_neg d1]
      have fin : ∀ i : TInstr, Left p T loca take code bloc.length Q loca (code ++ c1 ++ [i]) bloc := fun i => ⟨j, rfl, by simp only [List.length_append, List.length_singleton]; omega, by simp only [List.length_append, List.length_singleton]; omega, Nat.le_refl _, by omega⟩
      by_cases d2 : s.Kind = 2
      · obtain ⟨i, f1, -, -⟩ := gen_look_t (kind := kind) (para := para) (resu := resu) (code := code ++ c1) j n (by omega) s.Name
        rw [if_pos d2, f1, bS, P _ _ _ _ _ (code ++ c1) _ _ _ _ (by simp; omega), bS]
        exact ⟨loca, _, bloc, rfl, fin _, fun h => by omega⟩
      rw [if_neg d2]
      by_cases d5 : s.Kind = 5
      · rw [if_pos d5, P _ _ _ _ _ (code ++ c1) _ _ _ _ (by simp; omega), bS]
        exact ⟨loca, _, bloc, rfl, fin _, fun h => by omega⟩
      rw [if_neg d5]
      by_cases d7 : s.Kind = 7
      · rw [if_pos d7, P _ _ _ _ _ (code ++ c1) _ _ _ _ (by simp; omega), bS]
        exact ⟨loca, _, bloc, rfl, fin _, fun h => by omega⟩
      rw [if_neg d7]
      by_cases d8 : s.Kind = 8
      · rw [if_pos d8, P _ _ _ _ _ (code ++ c1) _ _ _ _ (by simp; omega), bS]
        exact ⟨loca, _, bloc, rfl, fin _, fun h => by omega⟩
      rw [if_neg d8]
      have d9 : s.Kind = 9 := by omega
      rw [if_pos d9, P _ _ _ _ _ (code ++ c1) _ _ _ _ (by simp; omega), bS]
      exact ⟨loca, _, bloc, rfl, fin _, fun h => by omega⟩
end Go.Y
namespace Go.Y
open Go.Wk Go.Xt
section
variable {p : TSp} {T : TGt}
theorem gen_unit_j4_t (H : TabOk p T) (fu : Nat) (hf : 500 ≤ fu) (d : TDef) (V : Prop) (ok : OkD d) (k1 : d.Kind ≠ 1) (hv : LSV (CSV p 39) V d.Body) (hs : (d.Body.map (nS 39)).sum ≤ 2000) (bloc : Bi) (para resu : Int) (loca : List Int) (take : Int) (hb : bloc.length = 1) (hV : V → loca ≠ []) (j : J p T loca take bloc) (hl : loca.length ≤ 100) :
    ∃ u, gen_unit_j4 fu T d bloc d.Kind para resu loca [] take = some u ∧ u.Kind = d.Kind := by
  obtain ⟨loca1, code1, bl1, e1, e2⟩ := (genT H fu).body 39 d.Body V d.Kind para loca resu take [] bloc (ok.bl k1) (ok.bo k1) hv (by omega) (by omega) hV j (by simp; omega) (by omega)
  have a3 := e2.c'
  simp only [List.length_nil] at a3
  have P := fun (kind para : Int) (loca : List Int) (resu take : Int) (code : List TInstr) (bloc : Bi) (a b c : Int) (h : code.length ≤ 2000000) => gen_put_e (T := T) (kind := kind) (para := para) (loca := loca) (resu := resu) (take := take) (bloc := bloc) a b c h
  rw [gen_unit_j4, e1, bS]
  simp only []
  by_cases c : d.Kind ≠ 2
  · rw [if_pos c, P _ _ _ _ _ code1 _ _ _ _ (by omega), bS]
    exact ⟨_, rfl, rfl⟩
  · rw [if_neg c]
    by_cases q : resu = 2
    · rw [if_pos q, P _ _ _ _ _ code1 _ _ _ _ (by omega), bS, gen_unit_j5]
      simp only []
      rw [P _ _ _ _ _ (code1 ++ [_]) _ _ _ _ (by simp; omega), bS]
      exact ⟨_, rfl, rfl⟩
    · rw [if_neg q, P _ _ _ _ _ code1 _ _ _ _ (by omega), bS, gen_unit_j5]
      simp only []
      rw [P _ _ _ _ _ (code1 ++ [_]) _ _ _ _ (by simp; omega), bS]
      exact ⟨_, rfl, rfl⟩
theorem gen_unit_j1_t (H : TabOk p T) (fu : Nat) (hf : 500 ≤ fu) (d : TDef) (V : Prop) (ok : OkD d) (hd : HeadOk p d) (k1 : d.Kind ≠ 1) (hv : LSV (CSV p 39) V d.Body) (hs : (d.Body.map (nS 39)).sum ≤ 2000) (bloc : Bi) (para resu : Int) (loca : List Int) (hb : bloc.length = 1) (hV : V → loca ≠ []) (j : J p T loca 0 bloc) (hl : loca.length ≤ 100) :
    ∃ u, gen_unit_j1 fu T d bloc d.Kind para resu 0 loca [] = some u ∧ u.Kind = d.Kind := by
  rw [gen_unit_j1]
  by_cases c : d.Kind = 3
  · obtain ⟨r, r1, r2⟩ := gen_typ_t H (ok.tk c) (.of (hd.tk c))
    rw [if_pos c, r1, bS]
    exact gen_unit_j4_t H fu hf d V ok k1 hv hs bloc para resu loca r hb hV ⟨j.lo, r2, j.bl, j.bn, j.ln⟩ hl
  · rw [if_neg c]
    exact gen_unit_j4_t H fu hf d V ok k1 hv hs bloc para resu loca 0 hb hV j hl
theorem gen_unit_t (H : TabOk p T) (fu : Nat) (hf : 500 ≤ fu) (d : TDef) (ok : OkD d) (hd : HeadOk p d) (k1 : d.Kind ≠ 1) (hv : LSV (CSV p 39) (d.Kind ≠ 4 ∧ d.Params ≠ []) d.Body) (hs : (d.Body.map (nS 39)).sum ≤ 2000) :
    ∃ u, gen_unit fu T d = some u ∧ u.Kind = d.Kind := by
  have J0 : J p T [] 0 [[]] := ⟨by simp, .inl (by omega), (fun m hm n k hk => by rw [List.mem_singleton.1 hm] at hk; cases hk), by simp, by simp⟩
  rw [gen_unit]
  by_cases c4 : d.Kind = 4
  · rw [if_neg (by simpa using c4)]
    exact gen_unit_j1_t H fu hf d _ ok hd k1 hv hs _ 0 0 [] rfl (fun h => absurd c4 h.1) J0 (by simp)
  · have k23 : d.Kind = 2 ∨ d.Kind = 3 := by have := ok.k1; have := ok.k4; omega
    obtain ⟨hp6, hpt⟩ := ok.ps k23
    obtain ⟨r, r1, r2⟩ := gen_typ_t H (ok.ty c4) (.of (hd.ty c4))
    rw [if_pos c4, r1, bS, gen_unit_j2]
    have L : ∀ (m i : Nat) (bloc : Bi) (loca : List Int), i ≤ d.Params.length → d.Params.length < m + i → bloc.length = 1 → loca.length = i → J p T loca 0 bloc → ∃ u, gen_unit_l1 fu T d m i bloc d.Kind (d.Params.length : Int) r 0 loca [] = some u ∧ u.Kind = d.Kind := by
      intro m
      induction m with
      | zero => intro i bloc loca h1 h2; omega
      | succ m ihm =>
        intro i bloc loca h1 h2 hb hl j
        rw [gen_unit_l1]
        by_cases c : i < d.Params.length
        · have hm : d.Params[i] ∈ d.Params := List.getElem_mem _
          obtain ⟨t, t1, t2⟩ := gen_typ_t H (hpt _ hm) (hd.ps k23 _ hm)
          obtain ⟨bl1, f1, f2, f3⟩ := gen_local_t (kind := d.Kind) (para := (d.Params.length : Int)) (resu := r) (code := []) j d.Params[i].Name t t2 (by omega) (by omega)
          rw [if_pos (by omega), at_nat, List.getElem?_eq_getElem c, bS, t1, bS, f1, bS, gen_unit_j3, i64_ok (by omega), bS]
          exact ihm (i + 1) bl1 (loca ++ [t]) c (by omega) (by omega) (by simp [hl]) f3
        · rw [if_neg (by omega)]
          exact gen_unit_j1_t H fu hf d _ ok hd k1 hv hs bloc _ r loca hb (fun h => by
            have := List.length_pos_iff.2 h.2
            exact List.length_pos_iff.1 (by omega)) j (by omega)
    exact L (d.Params.length + 1) 0 _ [] (by omega) (by omega) rfl rfl J0
end
theorem mput_new {κ β : Type} [DecidableEq κ] : ∀ (m : List (κ × β)) (k : κ) (x : β), mget m k = none → mput m k x = m ++ [(k, x)]
  | [], k, x, _ => rfl
  | (a, b) :: m, k, x, h => by
    rw [mget] at h
    by_cases c : a = k
    · rw [if_pos c] at h; cases h
    · rw [if_neg c] at h
      rw [mput, if_neg c, mput_new m k x h]
      rfl
theorem mget_mem {κ β : Type} [DecidableEq κ] : ∀ (m : List (κ × β)) (k : κ) (x : β), mget m k = some x → (k, x) ∈ m
  | (a, b) :: m, k, x, h => by
    rw [mget] at h
    by_cases c : a = k
    · rw [if_pos c] at h; cases h; rw [c]; exact List.mem_cons_self ..
    · rw [if_neg c] at h; exact List.mem_cons_of_mem _ (mget_mem m k x h)
theorem filter_one {α : Type} (f : α → Int) (y : Int) : ∀ (l : List α) (x : α), (l.Pairwise fun a b => f a ≠ f b) → x ∈ l → f x = y → (l.filter fun a => decide (f a = y)) = [x]
  | a :: l, x, h, hx, hy => by
    obtain ⟨h1, h2⟩ := List.pairwise_cons.1 h
    rcases List.mem_cons.1 hx with rfl | hx
    · rw [List.filter_cons_of_pos (by simpa using hy)]
      rw [List.filter_eq_nil_iff.2 fun b hb => by have := h1 b hb; simp; omega]
    · rw [List.filter_cons_of_neg (by have := h1 x hx; simp; omega)]
      exact filter_one f y l x h2 hx hy
structure UOk (l : List TDef) (i : Nat) (U : List (Nm × Int)) (D : List (Nm × TDef)) (m : List TBi) : Prop where
  le : U.length ≤ i
  lt : ∀ x ∈ U, 0 ≤ x.2 ∧ x.2 < U.length
  ne : U.Pairwise fun a b => a.2 ≠ b.2
  nm : ∀ n u, mget U n = some u → ∃ d ∈ l.take i, d.Name = n
  un : ∀ d ∈ l.take i, d.Kind ≠ 1 → ∃ u, mget U d.Name = some u
  df : ∀ d ∈ l.take i, mget D d.Name = some d
  bx : m = ((l.take i).filter fun d => decide (d.Kind = 1)).map fun d => ⟨d.Typ.Kind, d.Cap⟩
theorem UOk.tab {p : TSp} {l : List TDef} (R : Right p l) {U B : List (Nm × Int)} {D : List (Nm × TDef)} {m : List TBi} (h : UOk l l.length U D m) : TabOk p ⟨B, U, D⟩ := by
  have ht : l.take l.length = l := List.take_length
  have hl := R.ok.le
  refine ⟨fun n d hd => ?_, fun n d hd k1 => ?_, fun n u hu => ?_, fun y hy => ?_, fun n d hd => ?_⟩
  · obtain ⟨h1, rfl⟩ := R.only n d hd
    exact h.df d (by rw [ht]; exact h1)
  · obtain ⟨h1, rfl⟩ := R.only n d hd
    obtain ⟨u, hu⟩ := h.un d (by rw [ht]; exact h1) k1
    have := h.lt _ (mget_mem _ _ _ hu)
    have := h.le
    refine ⟨u, hu, ?_⟩
    simp only at *
    omega
  · show mfind U u = _
    rw [mfind, filter_one (fun e : Nm × Int => e.2) u U (n, u) h.ne (mget_mem _ _ _ hu) rfl]
    rfl
  · show mfind U y = _
    rw [mfind, List.filter_eq_nil_iff.2 fun b hb => by have := h.lt b hb; simp; omega]
    rfl
  · obtain ⟨h1, -⟩ := R.only n d hd
    exact ⟨R.ok.ok d h1, R.hd d h1⟩
section
variable {p : TSp} {l : List TDef} {fu : Nat}
theorem take_filter {i : Nat} (c : i < l.length) (P : TDef → Bool) : (l.take (i + 1)).filter P = (l.take i).filter P ++ [l[i]].filter P := by
  rw [List.take_succ_eq_append_getElem c, List.filter_append]
theorem compile_l2_t (R : Right p l) (hv : ∀ d ∈ l, d.Kind ≠ 1 → LSV (CSV p 39) (d.Kind ≠ 4 ∧ d.Params ≠ []) d.Body) (hf : 500 ≤ fu) (B U : List (Nm × Int)) (D : List (Nm × TDef)) (bx : List TBi) (H : TabOk p ⟨B, U, D⟩) : ∀ (m i : Nat) (us : List TUnit), i ≤ l.length → l.length < m + i → us.map (·.Kind) = ((l.take i).filter fun d => decide (d.Kind ≠ 1)).map (·.Kind) →
    ∃ r f, gen_compile_l2 fu l B U D bx m i us = some (r, f) ∧ (f.Err = 0 → r.Boxes = bx ∧ r.Units.map (·.Kind) = (l.filter fun d => decide (d.Kind ≠ 1)).map (·.Kind)) := by
  have hl := R.ok.le
  intro m
  induction m with
  | zero => intro i us h1 h2; omega
  | succ m ihm =>
    intro i us h1 h2 hu
    have hul : us.length ≤ 30 := by
      have e := congrArg List.length hu
      rw [List.length_map, List.length_map] at e
      have := List.length_filter_le (fun d : TDef => decide (d.Kind ≠ 1)) (l.take i)
      rw [List.length_take] at this
      omega
    rw [gen_compile_l2]
    by_cases c : i < l.length
    · have hm : l[i] ∈ l := List.getElem_mem _
      have e0 : at_ l (i : Int) = some l[i] := by rw [at_nat, List.getElem?_eq_getElem c]
      rw [if_pos (by omega), e0, bS]
      by_cases k1 : l[i].Kind = 1
      · rw [if_pos k1, i64_ok (by omega), bS]
        refine ihm (i + 1) us c (by omega) ?_
        rw [take_filter c, List.filter_cons_of_neg (by simpa using k1), List.filter_nil, List.append_nil]
        exact hu
      · have hs : (l[i].Body.map (nS 39)).sum ≤ 2000 := by
          have h := le_sum nD l l[i] hm
          have := R.ok.n
          rw [nD, if_pos k1] at h
          omega
        obtain ⟨u, u1, u2⟩ := gen_unit_t H fu hf l[i] (R.ok.ok _ hm) (R.hd _ hm) k1 (hv _ hm k1) hs
        rw [if_neg k1, bS, u1, bS]
        have J5 : ∀ b, ∃ r f, gen_compile_j5 (i : Int) us u (gen_compile_l2 fu l B U D bx m) b = some (r, f) ∧ (f.Err = 0 → r.Boxes = bx ∧ r.Units.map (·.Kind) = (l.filter fun d => decide (d.Kind ≠ 1)).map (·.Kind)) := by
          intro b
          rw [gen_compile_j5]
          by_cases q : b = true
          · rw [if_pos q]
            exact ⟨_, _, rfl, fun h => absurd h (by show ¬ (5 : Int) = 0; decide)⟩
          · rw [if_neg q, app_ok (by simp; omega), bS, i64_ok (by omega), bS]
            refine ihm (i + 1) (us ++ [u]) c (by omega) ?_
            rw [take_filter c, List.filter_cons_of_pos (by simpa using k1), List.filter_nil, List.map_append, List.map_append, hu]
            simp [u2]
        split
        · exact J5 _
        · exact J5 _
    · rw [if_neg (by omega)]
      rw [List.take_of_length_le (by omega)] at hu
      exact ⟨_, _, rfl, fun _ => ⟨rfl, hu⟩⟩
theorem compile_l1_t (R : Right p l) (hv : ∀ d ∈ l, d.Kind ≠ 1 → LSV (CSV p 39) (d.Kind ≠ 4 ∧ d.Params ≠ []) d.Body) (hf : 500 ≤ fu) : ∀ (m i : Nat) (B U : List (Nm × Int)) (D : List (Nm × TDef)) (bx : List TBi), i ≤ l.length → l.length < m + i → UOk l i U D bx →
    ∃ r f, gen_compile_l1 fu l m i B U D bx = some (r, f) ∧ (f.Err = 0 → r.Boxes = ((l.filter fun d => decide (d.Kind = 1)).map fun d => ⟨d.Typ.Kind, d.Cap⟩) ∧ r.Units.map (·.Kind) = (l.filter fun d => decide (d.Kind ≠ 1)).map (·.Kind)) := by
  have hl := R.ok.le
  intro m
  induction m with
  | zero => intro i B U D bx h1 h2; omega
  | succ m ihm =>
    intro i B U D bx h1 h2 h
    rw [gen_compile_l1]
    by_cases c : i < l.length
    · have hm : l[i] ∈ l := List.getElem_mem _
      have e0 : at_ l (i : Int) = some l[i] := by rw [at_nat, List.getElem?_eq_getElem c]
      have tk := List.take_succ_eq_append_getElem c
      have nn : ∀ d ∈ l.take i, d.Name ≠ l[i].Name := fun d hd => by
        obtain ⟨j, hj, rfl⟩ := List.getElem_of_mem hd
        rw [List.length_take] at hj
        rw [List.getElem_take]
        exact (List.pairwise_iff_getElem.1 R.nd) j i (by omega) c (by omega)
      have df : ∀ d ∈ l.take (i + 1), mget (mput D l[i].Name l[i]) d.Name = some d := by
        intro d hd
        rw [tk] at hd
        rw [mget_mput]
        rcases List.mem_append.1 hd with hd | hd
        · rw [if_neg fun he => nn d hd he.symm]; exact h.df d hd
        · rw [List.mem_singleton.1 hd, if_pos rfl]
      rw [if_pos (by omega), e0, bS, bS, bS]
      by_cases k1 : l[i].Kind = 1
      · have k3 : l[i].Typ.Kind ≠ 3 := (R.hd _ hm).ty (by omega)
        have hbl : bx.length ≤ 30 := by
          rw [h.bx, List.length_map]
          have := List.length_filter_le (fun d : TDef => decide (d.Kind = 1)) (l.take i)
          rw [List.length_take] at this
          omega
        rw [if_pos k1, bS, gen_compile_j2, e0, bS, bS, gen_typo, if_neg k3, bS, app_ok (by simp; omega), bS, gen_compile_j3, i64_ok (by omega), bS]
        refine ihm (i + 1) _ U _ _ c (by omega) ⟨by have := h.le; omega, h.lt, h.ne, fun n u hu => ?_, fun d hd hk => ?_, df, ?_⟩
        · obtain ⟨d, d1, d2⟩ := h.nm n u hu
          exact ⟨d, by rw [tk]; exact List.mem_append.2 (.inl d1), d2⟩
        · rw [tk] at hd
          rcases List.mem_append.1 hd with hd | hd
          · exact h.un d hd hk
          · rw [List.mem_singleton.1 hd] at hk; exact absurd k1 hk
        · rw [take_filter c, List.filter_cons_of_pos (by simpa using k1), List.filter_nil, List.map_append, h.bx]
          rfl
      · have hn : mget U l[i].Name = none := by
          cases e : mget U l[i].Name with
          | none => rfl
          | some u =>
            obtain ⟨d, d1, d2⟩ := h.nm _ u e
            exact absurd d2 (nn d d1)
        have hm' := mput_new U l[i].Name (U.length : Int) hn
        rw [if_neg k1, bS, gen_compile_j4, i64_ok (by omega), bS]
        refine ihm (i + 1) B _ _ bx c (by omega) ⟨?_, fun x hx => ?_, ?_, fun n u hu => ?_, fun d hd hk => ?_, df, ?_⟩
        · rw [hm', List.length_append, List.length_singleton]; have := h.le; omega
        · rw [hm'] at hx ⊢
          rw [List.length_append, List.length_singleton]
          rcases List.mem_append.1 hx with hx | hx
          · have := h.lt x hx; omega
          · rw [List.mem_singleton.1 hx]; simp only; omega
        · rw [hm', List.pairwise_append]
          refine ⟨h.ne, List.pairwise_singleton _ _, fun a ha b hb => ?_⟩
          rw [List.mem_singleton.1 hb]
          have := h.lt a ha
          simp only
          omega
        · rw [mget_mput] at hu
          rw [tk]
          split at hu
          · rename_i hk
            exact ⟨l[i], List.mem_append.2 (.inr (List.mem_singleton.2 rfl)), hk⟩
          · obtain ⟨d, d1, d2⟩ := h.nm n u hu
            exact ⟨d, List.mem_append.2 (.inl d1), d2⟩
        · rw [tk] at hd
          rw [mget_mput]
          rcases List.mem_append.1 hd with hd | hd
          · rw [if_neg fun he => nn d hd he.symm]; exact h.un d hd hk
          · rw [List.mem_singleton.1 hd, if_pos rfl]; exact ⟨_, rfl⟩
        · rw [take_filter c, List.filter_cons_of_neg (by simpa using k1), List.filter_nil, List.append_nil]
          exact h.bx
    · rw [if_neg (by omega)]
      have e : i = l.length := by omega
      subst e
      have hb := h.bx
      rw [List.take_length] at hb
      obtain ⟨r, f, e1, e2⟩ := compile_l2_t R hv hf B U D bx (h.tab R) (l.length + 1) 0 [] (by omega) (by omega) (by simp)
      refine ⟨r, f, e1, fun hz => ?_⟩
      obtain ⟨s1, s2⟩ := e2 hz
      exact ⟨s1.trans hb, s2⟩
theorem gen_compile_t (hf : 500 ≤ fu) (l : List TDef) : ∃ r f, gen_compile fu l = some (r, f) ∧ (f.Err = 0 → l.length ≤ 30 ∧ r.Boxes = ((l.filter fun d => decide (d.Kind = 1)).map fun d => ⟨d.Typ.Kind, d.Cap⟩) ∧ r.Units.map (·.Kind) = (l.filter fun d => decide (d.Kind ≠ 1)).map (·.Kind)) := by
  obtain ⟨p, f, h1, h2⟩ := sema_owners_t fu hf l
  rcases h2 with ⟨z, h⟩ | ⟨z, R, h⟩
  · rw [gen_compile, sema_check, h, bS, bS, if_pos z, gen_compile_j1]
    exact ⟨_, f, rfl, fun hz => absurd hz z⟩
  · obtain ⟨-, hv⟩ := right_vars hf h1 z
    rw [gen_compile, sema_check, h, bS, bS]
    by_cases q : (own2 (own1 p.named fu l []) l l 0 []).2.Err ≠ 0
    · rw [if_pos q, gen_compile_j1]
      exact ⟨_, _, rfl, fun hz => absurd hz q⟩
    · rw [if_neg q]
      obtain ⟨r, f, e1, e2⟩ := compile_l1_t R hv hf (l.length + 1) 0 [] [] [] [] (by omega) (by omega) ⟨by simp, by simp, List.Pairwise.nil, (fun n u h => by cases h), by simp, by simp, by simp⟩
      exact ⟨r, f, e1, fun hz => ⟨R.ok.le, e2 hz⟩⟩
theorem counts_l1_t (hl : l.length ≤ 30) (r : TModule × TFault) (hB : r.1.Boxes = ((l.filter fun d => decide (d.Kind = 1)).map fun d => ⟨d.Typ.Kind, d.Cap⟩)) (hU : r.1.Units.map (·.Kind) = (l.filter fun d => decide (d.Kind ≠ 1)).map (·.Kind)) : ∀ (m i : Nat), i ≤ l.length → l.length < m + i →
    law_counts_l1 l r m (((l.take i).filter fun d => decide (d.Kind = 1)).length : Nat) (((l.take i).filter fun d => decide (d.Kind ≠ 1)).length : Nat) i = some true := by
  have lB : r.1.Boxes.length = (l.filter fun d => decide (d.Kind = 1)).length := by rw [hB, List.length_map]
  have lU : r.1.Units.length = (l.filter fun d => decide (d.Kind ≠ 1)).length := by have := congrArg List.length hU; simpa only [List.length_map] using this
  intro m
  induction m with
  | zero => intro i h1 h2; omega
  | succ m ihm =>
    intro i h1 h2
    rw [law_counts_l1]
    have b1 := List.length_filter_le (fun d : TDef => decide (d.Kind = 1)) (l.take i)
    have b2 := List.length_filter_le (fun d : TDef => decide (d.Kind ≠ 1)) (l.take i)
    rw [List.length_take] at b1 b2
    by_cases c : i < l.length
    · have e0 : at_ l (i : Int) = some l[i] := by rw [at_nat, List.getElem?_eq_getElem c]
      have sp : ∀ P : TDef → Bool, l.filter P = (l.take i).filter P ++ ([l[i]].filter P ++ (l.drop (i + 1)).filter P) := fun P => by
        rw [← List.filter_append, ← List.filter_append, List.singleton_append, ← List.drop_eq_getElem_cons c, List.take_append_drop]
      rw [if_pos (by omega), e0, bS]
      have ih := ihm (i + 1) c (by omega)
      rw [take_filter c, take_filter c] at ih
      by_cases k1 : l[i].Kind = 1
      · rw [List.filter_cons_of_pos (by simpa using k1), List.filter_cons_of_neg (by simpa using k1), List.filter_nil, List.filter_nil, List.append_nil, List.length_append, List.length_singleton] at ih
        have hs := sp fun d => decide (d.Kind = 1)
        rw [List.filter_cons_of_pos (by simpa using k1), List.filter_nil] at hs
        have hg : r.1.Boxes[((l.take i).filter fun d => decide (d.Kind = 1)).length]? = some ⟨l[i].Typ.Kind, l[i].Cap⟩ := by
          rw [hB, hs, List.getElem?_map, List.getElem?_append_right (Nat.le_refl _), Nat.sub_self]
          rfl
        have hlt := (List.getElem?_eq_some_iff.1 hg).1
        rw [if_pos k1, if_neg (by omega), at_nat, hg, bS, law_counts_j1, if_neg (by simp [andL]), i64_ok (by omega), bS, i64_ok (by omega), bS]
        exact ih
      · rw [List.filter_cons_of_neg (by simpa using k1), List.filter_cons_of_pos (by simpa using k1), List.filter_nil, List.filter_nil, List.append_nil, List.length_append, List.length_singleton] at ih
        have hs := sp fun d => decide (d.Kind ≠ 1)
        rw [List.filter_cons_of_pos (by simpa using k1), List.filter_nil] at hs
        have hg : (r.1.Units.map (·.Kind))[((l.take i).filter fun d => decide (d.Kind ≠ 1)).length]? = some l[i].Kind := by
          rw [hU, hs, List.getElem?_map, List.getElem?_append_right (Nat.le_refl _), Nat.sub_self]
          rfl
        rw [List.getElem?_map] at hg
        obtain ⟨u, u1, u2⟩ := Option.map_eq_some_iff.1 hg
        have hlt := (List.getElem?_eq_some_iff.1 u1).1
        rw [if_neg k1, if_neg (by omega), at_nat, u1, bS, law_counts_j2, if_neg (by simp [u2]), i64_ok (by omega), bS, i64_ok (by omega), bS]
        exact ih
    · rw [if_neg (by omega), List.take_of_length_le (by omega), if_pos (by omega)]
      rw [lU]
      simp
theorem l8_alive_t : l8_alive 60001 = some true := by kernel_rfl
theorem law_counts_ok (l : List TDef) : law_counts 60001 l = some true := by
  obtain ⟨r, f, e1, e2⟩ := gen_compile_t (fu := 60001) (by omega) l
  rw [law_counts, l8_alive_t, bS, if_pos rfl, e1, bS]
  by_cases z : f.Err = 0
  · obtain ⟨hl, hB, hU⟩ := e2 z
    rw [if_neg (by simpa using z)]
    exact counts_l1_t hl (r, f) hB hU (l.length + 1) 0 (by omega) (by omega)
  · rw [if_pos z]
end
end Go.Y
