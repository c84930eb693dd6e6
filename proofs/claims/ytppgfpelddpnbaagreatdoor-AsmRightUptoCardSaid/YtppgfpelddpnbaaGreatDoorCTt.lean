/- AsmRight: the statement holds for every input; as the card says it (the listed variables are laid as the text lays them). -/
import Derived.Test.YtppgfpelddpnbaaGreatDoorCXt
import Derived.ChangeSlices
import Derived.ChangeShapes
import Derived.Test.YtppgfpelddpnbaaGreatDoorCMd
import Derived.ChangeArms
import Derived.Test.YtppgfpelddpnbaaGreatDoorCards
import Derived.Test.YtppgfpelddpnbaaGreatDoorTie
import Derived.WalkKit
import Derived.ProofKit
import Derived.OpenShut
import Derived.Deep.DeepHandedRow
import Derived.Lay
import Derived.Shelf.Vars
import Derived.Carry
import Derived.LaidSub
import Derived.MakeChecks
import Derived.Lib.LaidTab
import Derived.Test.YtppgfpelddpnbaaGreatDoorCWl
import Derived.Test.YtppgfpelddpnbaaGreatDoorCPl
set_option linter.unusedSimpArgs false
set_option linter.unusedVariables false
set_option linter.unusedSectionVars false
namespace Go.Xt
open Go.Wk Go.RowKit Go.ChangeShapes
section
variable {H : Type} {enc : TypeId × Value → H} {P : Program} {W : World} {d : DataW H} {ps : List MemPlace} {v : Value}
theorem cell_lt {w : World} {b i : Nat} {v : Value} (h : w.cell? ⟨b, i, none⟩ = some v) : b < w.heap.size := by
  refine Decidable.byContradiction fun hn => ?_
  have : w.heap[b]? = none := Array.getElem?_eq_none (by omega)
  simp [World.cell?, this] at h
theorem cell_keep {w w' : World} {b i : Nat} {v : Value} (h : w.cell? ⟨b, i, none⟩ = some v) (hk : ∀ k, k < w.heap.size → w'.heap[k]? = w.heap[k]?) : w'.cell? ⟨b, i, none⟩ = some v := by
  have hl := cell_lt h
  simpa [World.cell?, hk b hl] using h
theorem ints_in {t e : TypeId} {μ : M} (ht : P.underlying t = some (.slice e)) (he : P.underlying e = some (.int .i64)) (hc : P.cellsOf e = 1) (h : DataW.Trod enc P W 0 (fun _ => true) true t v d ps) (hv : v.cells.toList = [v])
    (hμ : ∀ w, μ w → ∀ k, k < W.heap.size → w.heap[k]? = W.heap[k]?) :
    ∃ (a : Option Addr) (c : Nat) (l : List Int), v = .slice a l.length c ∧ Sl μ a c l ∧ ∀ x ∈ l, -9223372036854775808 ≤ x ∧ x ≤ 9223372036854775807 := by
  obtain ⟨fuel, h⟩ := h
  rw [hv] at h
  rcases open_ints ht he hc h with ⟨e, -⟩ | ⟨a, len, cap, zs, e, -, h1, h2, h3, -, h4, h5⟩
  · cases e
    exact ⟨none, 0, [], rfl, Sl.nil, by simp⟩
  · simp only [if_true] at h3
    cases e
    have hlen : (zs.take len).length = len := by rw [List.length_take]; omega
    refine ⟨some a, cap, zs.take len, by rw [hlen], ⟨by omega, h2, ?_⟩, fun x hx => ?_⟩
    · by_cases h0 : len = 0
      · left; subst h0; simp
      · right
        have hsp : a.spot = none := by
          have := h4 0 (by omega)
          cases hs : a.spot with
          | none => rfl
          | some q =>
            have e : (a.add 0).spot = some q := by simp [Addr.add, hs]
            unfold World.cell? at this
            rw [e] at this
            simp at this
            split at this <;> cases this
        obtain ⟨b, o, s⟩ := a
        simp only at hsp
        subst hsp
        refine ⟨b, o, rfl, fun i => [.int .i64 (zs.getD i 0)], fun i x hx => ⟨fun w hw j u hu => ?_, ?_⟩⟩
        · have hi : i < len := by
            have := (List.getElem?_eq_some_iff.1 hx).1
            omega
          have hj : j = 0 := by
            have := (List.getElem?_eq_some_iff.1 hu).1
            simpa using this
          subst hj
          cases hu
          have hcell := h4 i (by omega)
          rw [add_addr] at hcell
          have := cell_keep hcell (hμ w hw)
          show w.cell? ⟨b, o + i * 1 + 0, none⟩ = _
          rw [Nat.mul_one, Nat.add_zero]
          exact this
        · rw [List.getElem?_take] at hx
          split at hx
          · show _ = _
            simp [List.getD_eq_getElem?_getD, hx]
          · cases hx
    · have := h5 x (List.mem_of_mem_take hx)
      simpa [Lit.wf, IntKind.min, IntKind.max, IntKind.signed, IntKind.bits] using this
theorem bools_in {t e : TypeId} {μ : M} (ht : P.underlying t = some (.slice e)) (he : P.underlying e = some .bool) (hc : P.cellsOf e = 1) (h : DataW.Trod enc P W 0 (fun _ => true) true t v d ps) (hv : v.cells.toList = [v])
    (hμ : ∀ w, μ w → ∀ k, k < W.heap.size → w.heap[k]? = W.heap[k]?) :
    ∃ (a : Option Addr) (c : Nat) (l : List Bool), v = .slice a l.length c ∧ Sl μ a c l ∧ True := by
  obtain ⟨fuel, h⟩ := h
  rw [hv] at h
  rcases DataW.trod_slice ht h with ⟨e, -⟩ | ⟨a, len, cap, elems, rest, n, -, e, -, -, h1, h2, h3, h4, -⟩
  · cases e
    exact ⟨none, 0, [], rfl, Sl.nil, trivial⟩
  · cases e
    have each : ∀ i, i < len → ∃ q : Bool, W.cell? (a.add i) = some (.bool q) := by
      intro i hi
      have hb := h4 i hi
      rw [hc, Nat.mul_one] at hb
      have hlt : i < elems.length := by omega
      rw [List.getElem?_eq_getElem hlt, Option.bind_eq_some_iff] at hb
      obtain ⟨cs, hcs, hy⟩ := hb
      obtain ⟨q, rfl, -⟩ := DataW.trod_bool he hy
      exact ⟨q, cell_of_cells?_one hcs⟩
    let f : Nat → Bool := fun i => if hi : i < len then Classical.choose (each i hi) else false
    have hf : ∀ i, i < len → W.cell? (a.add i) = some (.bool (f i)) := fun i hi => by
      simp only [f, dif_pos hi]
      exact Classical.choose_spec (each i hi)
    refine ⟨some a, cap, (List.range len).map f, by simp, ⟨by simpa using h1, h2, ?_⟩, trivial⟩
    by_cases h0 : len = 0
    · left; subst h0; simp
    · right
      have hsp : a.spot = none := by
        have := hf 0 (by omega)
        cases hs : a.spot with
        | none => rfl
        | some q =>
          have e : (a.add 0).spot = some q := by simp [Addr.add, hs]
          unfold World.cell? at this
          rw [e] at this
          simp at this
          split at this <;> cases this
      obtain ⟨b, o, s⟩ := a
      simp only at hsp
      subst hsp
      refine ⟨b, o, rfl, fun i => [.bool (f i)], fun i x hx => ⟨fun w hw j u hu => ?_, ?_⟩⟩
      · have hi : i < len := by
          have := (List.getElem?_eq_some_iff.1 hx).1
          simpa using this
        have hj : j = 0 := by
          have := (List.getElem?_eq_some_iff.1 hu).1
          simpa using this
        subst hj
        cases hu
        have hcell := hf i hi
        rw [add_addr] at hcell
        have := cell_keep hcell (hμ w hw)
        show w.cell? ⟨b, o + i * 1 + 0, none⟩ = _
        rw [Nat.mul_one, Nat.add_zero]
        exact this
      · have hi : i < len := by
          have := (List.getElem?_eq_some_iff.1 hx).1
          simpa using this
        simp [hi] at hx
        show [Value.bool (f i)] = [Value.bool x]
        rw [hx]
end
end Go.Xt
namespace Go.Xt
open Go.Wk Go.RowKit Go.ChangeShapes Go.Y
section
variable {H : Type} {enc : TypeId × Value → H} {P : Program} {W : World} {sp : Nat → Bool} {held : Bool} {μ : M} {U : DataW H → Prop}
structure UpOk (U : DataW H → Prop) : Prop where
  ag : ∀ ps, U (.agg ps) → ∀ p ∈ ps, U p
  sl : ∀ es sp, U (.slice es sp) → es.length ≤ 1048576 ∧ ∀ p ∈ es, U p
def Olds (W : World) (μ : M) : Prop := ∀ w, μ w → ∀ k, k < W.heap.size → w.heap[k]? = W.heap[k]?
theorem mapM_all {α β : Type} {f : α → Option β} : ∀ {l : List α} {ys : List β}, l.mapM f = some ys → ∀ x ∈ l, ∃ y, f x = some y := by
  intro l
  induction l with
  | nil => intro ys _ x hx; cases hx
  | cons a l ih =>
    intro ys h x hx
    rw [List.mapM_cons] at h
    cases ha : f a with
    | none => rw [ha] at h; cases h
    | some b =>
      rw [ha] at h
      cases hl : l.mapM f with
      | none => rw [hl] at h; cases h
      | some bs =>
        rcases List.mem_cons.1 hx with rfl | hx
        · exact ⟨b, ha⟩
        · exact ih hl x hx
structure SF (P : Program) (T : TypeId) (fl : List (TypeId × Nat)) (n : Nat) : Prop where
  out : ∃ fs, P.underlying T = some (.struct fs) ∧ (fs.toList.map fun f => (f.type, f.offset)) = fl ∧ P.cellsOf T = n
theorem SF.size {T : TypeId} {fl : List (TypeId × Nat)} {n : Nat} (h : SF P T fl n) : P.cellsOf T = n := by
  obtain ⟨fs, -, -, h⟩ := h.out
  exact h
theorem in_sf {T : TypeId} {fl : List (TypeId × Nat)} {n fuel : Nat} {cs : List Value} {r : DataW H × List MemPlace} (hs : SF P T fl n) (h : DataW.trod enc P W 0 sp held (fuel + 1) T cs = some r) :
    cs.length = n ∧ ∀ p ∈ fl, ∃ r', DataW.trod enc P W 0 sp held fuel p.1 ((cs.drop p.2).take (P.cellsOf p.1)) = some r' := by
  obtain ⟨fs, hu, hf, hc⟩ := hs.out
  by_cases hl : cs.length = P.cellsOf T
  · refine ⟨hl.trans hc, ?_⟩
    have h2 : ∃ ys, fs.toList.mapM (fun f => DataW.trod enc P W 0 sp held fuel f.type ((cs.drop f.offset).take (P.cellsOf f.type))) = some ys := by
      unfold DataW.trod at h
      simp only [hu, hl, if_true] at h
      cases hm : fs.toList.mapM (fun f => DataW.trod enc P W 0 sp held fuel f.type ((cs.drop f.offset).take (P.cellsOf f.type))) with
      | none => rw [hm] at h; cases h
      | some ys => exact ⟨ys, rfl⟩
    obtain ⟨ys, hy⟩ := h2
    intro p hp
    rw [← hf] at hp
    obtain ⟨f, hfm, rfl⟩ := List.mem_map.1 hp
    exact mapM_all hy f hfm
  · unfold DataW.trod at h
    simp only [hu, hl, if_false] at h
    cases h
theorem in_i64 {t : TypeId} {fuel : Nat} {cs : List Value} {r : DataW H × List MemPlace} (ht : P.underlying t = some (.int .i64)) (h : DataW.trod enc P W 0 sp held fuel t cs = some r) : ∃ n, cs = [.int .i64 n] := by
  obtain ⟨n, hc, -, -⟩ := DataW.trod_int ht h
  exact ⟨n, hc⟩
theorem in_str {t : TypeId} {fuel : Nat} {cs : List Value} {r : DataW H × List MemPlace} (ht : P.underlying t = some .string) (h : DataW.trod enc P W 0 sp held fuel t cs = some r) : ∃ s, cs = [S s] := by
  obtain ⟨⟨⟨s⟩⟩, hc, -, -⟩ := DataW.trod_string ht h
  exact ⟨s, hc⟩
theorem cells_in {a : Addr} {m : Nat} {cs : List Value} (h : W.cells? 0 a m = some cs) : cs.length = m ∧ ∀ i v, cs[i]? = some v → W.cell? (a.add i) = some v := by
  unfold World.cells? at h
  rw [if_pos (Nat.zero_le _)] at h
  have hl := mapM_some_length h
  refine ⟨by simpa using hl, fun i v hi => ?_⟩
  have hlt : i < m := by have := (List.getElem?_eq_some_iff.1 hi).1; rw [hl] at this; simpa using this
  rw [← hi]
  exact mapM_some_get h i i (by simp [hlt])
theorem in_sl {α : Type} [Mo α] {fuel : Nat} {T e : TypeId} {cs : List Value} {r : DataW H × List MemPlace} (hu : P.underlying T = some (.slice e)) (hm : P.cellsOf e = Mo.sz α) (hμ : Olds W μ) (h : DataW.trod enc P W 0 sp held fuel T cs = some r)
    (hE : ∀ n cs r', n < fuel → DataW.trod enc P W 0 sp held n e cs = some r' → ∃ x : α, Mo.cs μ cs x) : ∃ (a : Option Addr) (c : Nat) (l : List α), cs = [.slice a l.length c] ∧ Sl μ a c l := by
  rcases DataW.trod_slice hu h with ⟨rfl, -⟩ | ⟨a, len, cap, elems, rest, n, rfl, rfl, -, -, h1, h2, h3, h4, -⟩
  · exact ⟨none, 0, [], rfl, Sl.nil⟩
  · rcases Nat.eq_zero_or_pos len with h0 | h0
    · subst h0
      exact ⟨some a, cap, [], rfl, ⟨by simp, h2, .inl rfl⟩⟩
    · have each : ∀ i, i < len → ∃ cs, cs.length = Mo.sz α ∧ (∀ j v, cs[j]? = some v → W.cell? ((a.add (i * Mo.sz α)).add j) = some v) ∧ ∃ x : α, Mo.cs μ cs x := by
        intro i hi
        have he := h4 i hi
        rw [hm] at he
        obtain ⟨y, hy⟩ : ∃ y, elems[i]? = some y := ⟨_, List.getElem?_eq_getElem (by omega)⟩
        rw [hy] at he
        cases hc : W.cells? 0 (a.add (i * Mo.sz α)) (Mo.sz α) with
        | none => rw [hc] at he; cases he
        | some cs =>
          rw [hc] at he
          exact ⟨cs, (cells_in hc).1, (cells_in hc).2, hE n cs y (Nat.lt_succ_self _) he⟩
      have hspot : a.spot = none := by
        obtain ⟨cs, hl, hc, -⟩ := each 0 h0
        have hp := Mo.pos (α := α)
        obtain ⟨v, hv⟩ : ∃ v, cs[0]? = some v := ⟨_, List.getElem?_eq_getElem (by omega)⟩
        have := hc 0 v hv
        cases hs : a.spot with
        | none => rfl
        | some q =>
          have e : ((a.add (0 * Mo.sz α)).add 0).spot = some q := by simp [Addr.add, hs]
          unfold World.cell? at this
          rw [e] at this
          simp at this
          split at this <;> cases this
      obtain ⟨b, o, s⟩ := a
      simp only at hspot
      subst hspot
      have hch : ∃ g : Nat → List Value, ∃ f : Nat → α, ∀ i, i < len → (∀ j v, (g i)[j]? = some v → W.cell? (((⟨b, o, none⟩ : Addr).add (i * Mo.sz α)).add j) = some v) ∧ Mo.cs μ (g i) (f i) := by
        have ne : Nonempty α := by obtain ⟨_, -, -, x, -⟩ := each 0 h0; exact ⟨x⟩
        refine ⟨fun i => if hi : i < len then Classical.choose (each i hi) else [], fun i => if hi : i < len then Classical.choose (Classical.choose_spec (each i hi)).2.2 else Classical.choice ne, fun i hi => ?_⟩
        simp only [dif_pos hi]
        exact ⟨(Classical.choose_spec (each i hi)).2.1, Classical.choose_spec (Classical.choose_spec (each i hi)).2.2⟩
      obtain ⟨g, f, hf⟩ := hch
      refine ⟨some ⟨b, o, none⟩, cap, (List.range' 0 len).map f, by simp, ⟨by simp; omega, h2, .inr ⟨b, o, rfl, g, fun i x hx => ?_⟩⟩⟩
      have hi : i < len := by
        have := (List.getElem?_eq_some_iff.1 hx).1
        simpa using this
      have hxf : x = f i := by
        rw [List.getElem?_map, List.getElem?_range' hi] at hx
        simpa using hx.symm
      obtain ⟨k1, k2⟩ := hf i hi
      rw [hxf]
      refine ⟨fun w hw j v hj => ?_, k2⟩
      have := k1 j v hj
      rw [add_addr, add_addr] at this
      exact cell_keep this (hμ w hw)
theorem mapM_idx {α β : Type} {f : α → Option β} : ∀ {l : List α} {ys : List β}, l.mapM f = some ys → ys.length = l.length ∧ ∀ (i : Nat) (x : α), l[i]? = some x → ∃ y, ys[i]? = some y ∧ f x = some y := by
  intro l
  induction l with
  | nil => intro ys h; cases h; exact ⟨rfl, fun i x hx => by simp at hx⟩
  | cons a l ih =>
    intro ys h
    rw [List.mapM_cons] at h
    cases ha : f a with
    | none => rw [ha] at h; cases h
    | some b =>
      rw [ha] at h
      cases hl : l.mapM f with
      | none => rw [hl] at h; cases h
      | some bs =>
        rw [hl] at h
        cases h
        obtain ⟨h1, h2⟩ := ih hl
        refine ⟨by simp [h1], fun i x hx => ?_⟩
        cases i with
        | zero => cases hx; exact ⟨b, rfl, ha⟩
        | succ i => exact h2 i x hx
theorem inz_sf {T : TypeId} {fl : List (TypeId × Nat)} {n fuel : Nat} {cs : List Value} {r : DataW H × List MemPlace} (hU : UpOk U) (hs : SF P T fl n) (h : DataW.trod enc P W 0 sp held (fuel + 1) T cs = some r) (hz : U r.1) :
    cs.length = n ∧ ∀ (i : Nat) (p : TypeId × Nat), fl[i]? = some p → ∃ r', DataW.trod enc P W 0 sp held fuel p.1 ((cs.drop p.2).take (P.cellsOf p.1)) = some r' ∧ U r'.1 := by
  obtain ⟨fs, hu, hf, hc⟩ := hs.out
  by_cases hl : cs.length = P.cellsOf T
  · refine ⟨hl.trans hc, ?_⟩
    have h2 : ∃ ys, fs.toList.mapM (fun f => DataW.trod enc P W 0 sp held fuel f.type ((cs.drop f.offset).take (P.cellsOf f.type))) = some ys ∧ r.1 = .agg (ys.map (·.1)) := by
      unfold DataW.trod at h
      simp only [hu, hl, if_true] at h
      cases hm : fs.toList.mapM (fun f => DataW.trod enc P W 0 sp held fuel f.type ((cs.drop f.offset).take (P.cellsOf f.type))) with
      | none => rw [hm] at h; cases h
      | some ys => rw [hm] at h; cases h; exact ⟨ys, rfl, rfl⟩
    obtain ⟨ys, hy, hr⟩ := h2
    obtain ⟨m1, m2⟩ := mapM_idx hy
    intro i p hp
    rw [← hf, List.getElem?_map] at hp
    obtain ⟨f, hf1, rfl⟩ := Option.map_eq_some_iff.1 hp
    obtain ⟨y, hy1, hy2⟩ := m2 i f hf1
    rw [hr] at hz
    exact ⟨y, hy2, hU.ag _ hz _ (List.mem_map.2 ⟨y, List.mem_of_getElem? hy1, rfl⟩)⟩
  · unfold DataW.trod at h
    simp only [hu, hl, if_false] at h
    cases h
theorem inz_sl {α : Type} [Mo α] {Rz : α → Prop} {fuel : Nat} {T e : TypeId} {cs : List Value} {r : DataW H × List MemPlace} (hU : UpOk U) (hu : P.underlying T = some (.slice e)) (hm : P.cellsOf e = Mo.sz α) (hμ : Olds W μ) (h : DataW.trod enc P W 0 sp held fuel T cs = some r) (hz : U r.1)
    (hE : ∀ n cs r', n < fuel → DataW.trod enc P W 0 sp held n e cs = some r' → U r'.1 → ∃ x : α, Mo.cs μ cs x ∧ Rz x) : ∃ (a : Option Addr) (c : Nat) (l : List α), cs = [.slice a l.length c] ∧ Sl μ a c l ∧ l.length ≤ 1048576 ∧ ∀ x ∈ l, Rz x := by
  rcases DataW.trod_slice hu h with ⟨rfl, -⟩ | ⟨a, len, cap, elems, rest, n, rfl, rfl, hr, -, h1, h2, h3, h4, -⟩
  · exact ⟨none, 0, [], rfl, Sl.nil, by simp, by simp⟩
  · rw [hr] at hz
    obtain ⟨hB0, hzE0⟩ := hU.sl _ _ hz
    have hB : len ≤ 1048576 := by rw [← h3]; simpa using hB0
    have hzE : ∀ (i : Nat) (y : DataW H × List MemPlace), elems[i]? = some y → U y.1 := fun i y hy => hzE0 _ (List.mem_map.2 ⟨y, List.mem_of_getElem? hy, rfl⟩)
    rcases Nat.eq_zero_or_pos len with h0 | h0
    · subst h0
      exact ⟨some a, cap, [], rfl, ⟨by simp, h2, .inl rfl⟩, by simp, by simp⟩
    · have each : ∀ i, i < len → ∃ cs, cs.length = Mo.sz α ∧ (∀ j v, cs[j]? = some v → W.cell? ((a.add (i * Mo.sz α)).add j) = some v) ∧ ∃ x : α, Mo.cs μ cs x ∧ Rz x := by
        intro i hi
        have he := h4 i hi
        rw [hm] at he
        obtain ⟨y, hy⟩ : ∃ y, elems[i]? = some y := ⟨_, List.getElem?_eq_getElem (by omega)⟩
        rw [hy] at he
        cases hc : W.cells? 0 (a.add (i * Mo.sz α)) (Mo.sz α) with
        | none => rw [hc] at he; cases he
        | some cs =>
          rw [hc] at he
          exact ⟨cs, (cells_in hc).1, (cells_in hc).2, hE n cs y (Nat.lt_succ_self _) he (hzE i y hy)⟩
      have hspot : a.spot = none := by
        obtain ⟨cs, hl, hc, -⟩ := each 0 h0
        have hp := Mo.pos (α := α)
        obtain ⟨v, hv⟩ : ∃ v, cs[0]? = some v := ⟨_, List.getElem?_eq_getElem (by omega)⟩
        have := hc 0 v hv
        cases hs : a.spot with
        | none => rfl
        | some q =>
          have e : ((a.add (0 * Mo.sz α)).add 0).spot = some q := by simp [Addr.add, hs]
          unfold World.cell? at this
          rw [e] at this
          simp at this
          split at this <;> cases this
      obtain ⟨b, o, s⟩ := a
      simp only at hspot
      subst hspot
      have hch : ∃ g : Nat → List Value, ∃ f : Nat → α, ∀ i, i < len → (∀ j v, (g i)[j]? = some v → W.cell? (((⟨b, o, none⟩ : Addr).add (i * Mo.sz α)).add j) = some v) ∧ Mo.cs μ (g i) (f i) ∧ Rz (f i) := by
        have ne : Nonempty α := by obtain ⟨_, -, -, x, -⟩ := each 0 h0; exact ⟨x⟩
        refine ⟨fun i => if hi : i < len then Classical.choose (each i hi) else [], fun i => if hi : i < len then Classical.choose (Classical.choose_spec (each i hi)).2.2 else Classical.choice ne, fun i hi => ?_⟩
        simp only [dif_pos hi]
        exact ⟨(Classical.choose_spec (each i hi)).2.1, Classical.choose_spec (Classical.choose_spec (each i hi)).2.2⟩
      obtain ⟨g, f, hf⟩ := hch
      refine ⟨some ⟨b, o, none⟩, cap, (List.range' 0 len).map f, by simp, ⟨by simp; omega, h2, .inr ⟨b, o, rfl, g, fun i x hx => ?_⟩⟩, by simp; omega, fun x hx => ?_⟩
      · have hi : i < len := by
          have := (List.getElem?_eq_some_iff.1 hx).1
          simpa using this
        have hxf : x = f i := by
          rw [List.getElem?_map, List.getElem?_range' hi] at hx
          simpa using hx.symm
        obtain ⟨k1, k2, -⟩ := hf i hi
        rw [hxf]
        refine ⟨fun w hw j v hj => ?_, k2⟩
        have := k1 j v hj
        rw [add_addr, add_addr] at this
        exact cell_keep this (hμ w hw)
      · obtain ⟨i, hi, rfl⟩ := List.mem_map.1 hx
        have hi' : i < len := by simpa using (List.mem_range'_1.1 hi).2
        exact (hf i hi').2.2
theorem in_i64r {t : TypeId} {fuel : Nat} {cs : List Value} {r : DataW H × List MemPlace} (ht : P.underlying t = some (.int .i64)) (h : DataW.trod enc P W 0 sp held fuel t cs = some r) : ∃ n, cs = [.int .i64 n] ∧ R64 n := by
  obtain ⟨n, hc, -, hw⟩ := DataW.trod_int ht h
  refine ⟨n, hc, ?_⟩
  unfold Lit.wf at hw
  simp only [Bool.and_eq_true, decide_eq_true_eq] at hw
  exact hw
structure ML (P : Program) (tI tN tIs tB tBs tC tCs tU tUs tM : TypeId) : Prop where
  i : P.underlying tI = some (.int .i64)
  n : P.underlying tN = some (.int .i64)
  is : P.underlying tIs = some (.slice tI)
  b : SF P tB [(tI, 0), (tI, 1)] 2
  bs : P.underlying tBs = some (.slice tB)
  c : SF P tC [(tI, 0), (tI, 1), (tN, 2)] 3
  cs : P.underlying tCs = some (.slice tC)
  u : SF P tU [(tI, 0), (tI, 1), (tIs, 2), (tI, 3), (tI, 4), (tCs, 5)] 6
  us : P.underlying tUs = some (.slice tU)
  m : SF P tM [(tBs, 0), (tUs, 1)] 2
  one : P.cellsOf tI = 1 ∧ P.cellsOf tN = 1 ∧ P.cellsOf tIs = 1 ∧ P.cellsOf tBs = 1 ∧ P.cellsOf tCs = 1 ∧ P.cellsOf tUs = 1
variable {tI tN tIs tB tBs tC tCs tU tUs tM : TypeId}
theorem in_bx (L : ML P tI tN tIs tB tBs tC tCs tU tUs tM) {fuel : Nat} {cs : List Value} {r : DataW H × List MemPlace} (h : DataW.trod enc P W 0 sp held fuel tB cs = some r) : ∃ x : TBi, Mo.cs μ cs x ∧ MzB x := by
  cases fuel with
  | zero => cases h
  | succ fuel =>
    obtain ⟨hl, hf⟩ := in_sf L.b h
    obtain ⟨_, h0⟩ := hf (tI, 0) (by simp)
    obtain ⟨_, h1⟩ := hf (tI, 1) (by simp)
    simp only [L.one] at h0 h1
    match cs, hl with
    | [a, b], _ =>
      obtain ⟨k, e0, r0⟩ := in_i64r L.i h0
      obtain ⟨g, e1, r1⟩ := in_i64r L.i h1
      simp at e0 e1
      subst e0; subst e1
      exact ⟨⟨k, g⟩, rfl, r0, r1⟩
theorem in_cd (L : ML P tI tN tIs tB tBs tC tCs tU tUs tM) {fuel : Nat} {cs : List Value} {r : DataW H × List MemPlace} (h : DataW.trod enc P W 0 sp held fuel tC cs = some r) : ∃ x : TInstr, Mo.cs μ cs x ∧ MzC x := by
  cases fuel with
  | zero => cases h
  | succ fuel =>
    obtain ⟨hl, hf⟩ := in_sf L.c h
    obtain ⟨_, h0⟩ := hf (tI, 0) (by simp)
    obtain ⟨_, h1⟩ := hf (tI, 1) (by simp)
    obtain ⟨_, h2⟩ := hf (tN, 2) (by simp)
    simp only [L.one] at h0 h1 h2
    match cs, hl with
    | [a, b, c], _ =>
      obtain ⟨k, e0, r0⟩ := in_i64r L.i h0
      obtain ⟨g, e1, r1⟩ := in_i64r L.i h1
      obtain ⟨q, e2, r2⟩ := in_i64r L.n h2
      simp at e0 e1 e2
      subst e0; subst e1; subst e2
      exact ⟨⟨k, g, q⟩, rfl, r0, r1, r2⟩
theorem in_un (hU : UpOk U) (L : ML P tI tN tIs tB tBs tC tCs tU tUs tM) (hμ : Olds W μ) {fuel : Nat} {cs : List Value} {r : DataW H × List MemPlace} (h : DataW.trod enc P W 0 sp held fuel tU cs = some r) (hz : U r.1) : ∃ x : TUnit, Mo.cs μ cs x ∧ MzU x := by
  cases fuel with
  | zero => cases h
  | succ fuel =>
    obtain ⟨hl, hf⟩ := inz_sf hU L.u h hz
    obtain ⟨_, h0, -⟩ := hf 0 (tI, 0) rfl
    obtain ⟨_, h1, -⟩ := hf 1 (tI, 1) rfl
    obtain ⟨_, h2, z2⟩ := hf 2 (tIs, 2) rfl
    obtain ⟨_, h3, -⟩ := hf 3 (tI, 3) rfl
    obtain ⟨_, h4, -⟩ := hf 4 (tI, 4) rfl
    obtain ⟨_, h5, z5⟩ := hf 5 (tCs, 5) rfl
    simp only [L.one] at h0 h1 h2 h3 h4 h5
    match cs, hl with
    | [a, b, c, d, e, f], _ =>
      obtain ⟨k0, e0, r0⟩ := in_i64r L.i h0
      obtain ⟨k1, e1, r1⟩ := in_i64r L.i h1
      obtain ⟨a2, q2, l2, e2, m2, s2, g2⟩ := inz_sl (α := Int) (Rz := R64) hU L.is L.one.1 hμ h2 z2 fun n cs r' _ h _ => by
        obtain ⟨k, e, r⟩ := in_i64r L.i h
        exact ⟨k, e, r⟩
      obtain ⟨k3, e3, r3⟩ := in_i64r L.i h3
      obtain ⟨k4, e4, r4⟩ := in_i64r L.i h4
      obtain ⟨a5, q5, l5, e5, m5, s5, g5⟩ := inz_sl (α := TInstr) (Rz := MzC) hU L.cs L.c.size hμ h5 z5 fun n cs r' _ h _ => in_cd L h
      simp at e0 e1 e2 e3 e4 e5
      subst e0; subst e1; subst e2; subst e3; subst e4; subst e5
      exact ⟨⟨k0, k1, l2, k3, k4, l5⟩, ⟨a2, q2, a5, q5, rfl, m2, m5⟩, r0, r1, r3, r4, ⟨s2, g2⟩, s5, g5⟩
theorem mod_in (hU : UpOk U) (L : ML P tI tN tIs tB tBs tC tCs tU tUs tM) (hμ : Olds W μ) {v : Value} {d : DataW H} {ps : List MemPlace} (h : DataW.Trod enc P W 0 sp held tM v d ps) (hz : U d) (hv : ∃ cs, v = .agg cs) : ∃ (a b : Option Addr) (c c' : Nat) (m : TModule), v = .agg ⟨[.slice a m.Boxes.length c, .slice b m.Units.length c']⟩ ∧ Sl μ a c m.Boxes ∧ Sl μ b c' m.Units ∧ MzM m := by
  obtain ⟨cs, rfl⟩ := hv
  obtain ⟨fuel, h⟩ := h
  cases fuel with
  | zero => cases h
  | succ fuel =>
    obtain ⟨hl, hf⟩ := inz_sf hU L.m h hz
    obtain ⟨_, h0, z0⟩ := hf 0 (tBs, 0) rfl
    obtain ⟨_, h1, z1⟩ := hf 1 (tUs, 1) rfl
    simp only [L.one] at h0 h1
    obtain ⟨cs⟩ := cs
    match cs, hl with
    | [x, y], _ =>
      obtain ⟨a, c, l, e, k, s, g⟩ := inz_sl (α := TBi) (Rz := MzB) hU L.bs L.b.size hμ h0 z0 fun n cs r' _ h _ => in_bx L h
      obtain ⟨a', c', l', e', k', s', g'⟩ := inz_sl (α := TUnit) (Rz := MzU) hU L.us L.u.size hμ h1 z1 fun n cs r' _ h z => in_un hU L hμ h z
      simp [Value.cells] at e e'
      subst e; subst e'
      exact ⟨a, a', c, c', ⟨l, l'⟩, rfl, k, k', ⟨s, g⟩, s', g'⟩
end
end Go.Xt
namespace Go.Proofs.YtppgfpelddpnbaaGreatDoor.asmRight
open Go.Wk Go.Xt Go.Y Go.ChangeShapes Go.WideShapes Go.ChangeAt Go.RowKit
theorem trod_iface {P : Program} {w : World} {t : TypeId} {cs : List Value} {fuel : Nat} {d : DataW Unit} {p : List MemPlace} {x : Array (String × TypeId)} (h : DataW.trod (fun _ => ()) P w 0 (fun _ => true) false fuel t cs = some (d, p)) (hi : ∃ x, P.underlying t = some (.interface x)) :
    ∃ ev, cs = [ev] ∧ (ev = .nilIface ∨ ∃ te pe, ev = .iface te pe) := by
  obtain ⟨x, hi⟩ := hi
  cases fuel with
  | zero => simp [DataW.trod] at h
  | succ n =>
    unfold DataW.trod at h
    rw [hi] at h
    split at h <;> simp_all
theorem var_iface {P : Program} {w : World} {n : String} {g : Nat} {t : TypeId} {d : DataW Unit} {rest : List (String × DataW Unit)} (h : laidMet P ((n, d) :: rest) w) (hg : P.globalNamed n = some g) (ht : (P.globals[g]?).map (·.type) = some t)
    (hi : ∃ x, P.underlying t = some (.interface x)) : ∃ ev, w.cell? ⟨g, 0, none⟩ = some ev ∧ (ev = .nilIface ∨ ∃ te pe, ev = .iface te pe) := by
  obtain ⟨ps, ⟨g', t', cs, fuel, p, q, hg', ht', hvar, hd, _, _⟩, _⟩ := h
  obtain rfl := Option.some.inj (hg.symm.trans hg')
  obtain rfl := Option.some.inj (ht.symm.trans ht')
  obtain ⟨ev, hev, hk⟩ := trod_iface (x := #[]) hd hi
  refine ⟨ev, ?_, hk⟩
  have := World.var?_cell hg hvar 0
  rw [this]
  have : cs = #[ev] := by cases cs; simp_all
  subst this
  rfl
theorem rob_cell {w : World} {b i : Nat} {v : Value} (h : w.cell? ⟨b, i, none⟩ = some v) : Rob (fun _ => True) w (fun w' => w'.cell? ⟨b, i, none⟩ = some v) := fun w' _ hb => by
  have hl : b < w.heap.size := by
    refine Decidable.byContradiction fun hn => ?_
    have : w.heap[b]? = none := Array.getElem?_eq_none (by omega)
    simp [World.cell?, this] at h
  simpa [World.cell?, hb b hl trivial] using h
theorem rob_tab {P : Program} {w : World} {n : String} {g : Nat} {k : IntKind} {zs : List Int} (hg : P.globalNamed n = some g) (h : Lib.TabIs P w n k zs) : Rob (fun _ => True) w (fun w' => Lib.TabIs P w' n k zs) := fun w' _ hb => by
  unfold Lib.TabIs World.var? at h ⊢
  rw [hg] at h ⊢
  simp only [Option.bind_some] at h ⊢
  have hl : g < w.heap.size := by
    refine Decidable.byContradiction fun hn => ?_
    have : w.heap[g]? = none := Array.getElem?_eq_none (by omega)
    simp [this] at h
  rw [hb g hl trivial]; exact h
theorem gm_of_laid {W : World} (hL : laidMetH Tryz.prog Rows.asmRightUptoRow.laid W) (hsh : W.ShapedOpen Tryz.prog) : Rob (fun _ => True) W Gm := by
  have hp : ∀ l : List (String × DataW Unit), Rows.asmRightUptoRow.laid.filter (fun x => l.map (·.1) == [x.1]) = l → (l.all fun x => x.2.handleName?.isNone) = true → laidMet Tryz.prog l W := fun l hl hn => by
    have := laidMetH.filter (fun x => l.map (·.1) == [x.1]) hL
    rw [hl, MakeChecks.laidMetH_plain _ _ _ hn] at this
    exact this
  have h1 : Lib.TabIs Tryz.prog W "internal/strconv.uint64pow10" .u64 Lib.pow10Tab :=
    Lib.tabIs_of_head (g := 0) (t := 126) (e := 104) (n := 20) (by kernel_rfl) (by kernel_rfl) (by kernel_rfl) (by kernel_rfl) (by kernel_rfl) (by kernel_rfl) (hp [("internal/strconv.uint64pow10", Rows.laid_internal_strconv_uint64pow10)] (by rfl) (by kernel_rfl))
  obtain ⟨m, h0⟩ := cell_of_shapedOpen_int (P := Tryz.prog) (g := 1) (t := 3) (zero := #[.int .i64 0]) hsh (of_decide_eq_true (by kernel_rfl)) (by kernel_rfl) (by kernel_rfl) (by kernel_rfl) (by kernel_rfl) Tryz.underlying3
  obtain ⟨e2, h2, k2⟩ := var_iface (g := 4) (t := 49) (hp [("strconv.ErrSyntax", Rows.laid_strconv_ErrSyntax)] (by rfl) (by kernel_rfl)) (by kernel_rfl) (by kernel_rfl) ⟨_, Tryz.underlying49⟩
  obtain ⟨e3, h3, k3⟩ := var_iface (g := 5) (t := 49) (hp [("strconv.ErrRange", Rows.laid_strconv_ErrRange)] (by rfl) (by kernel_rfl)) (by kernel_rfl) (by kernel_rfl) ⟨_, Tryz.underlying49⟩
  exact fun w' hs hb => ⟨⟨m, rob_cell h0 w' hs hb⟩, rob_tab (g := 0) (by kernel_rfl) h1 w' hs hb, ⟨e2, rob_cell h2 w' hs hb, k2⟩, ⟨e3, rob_cell h3 w' hs hb, k3⟩⟩
theorem law_c {m : TModule} {a b : Option Addr} {c d : Nat} (W : World) (hG : Rob (fun _ => True) W Gm) (k1 : Sl (fun w => Gm w ∧ ∀ k, k < W.heap.size → w.heap[k]? = W.heap[k]?) a c m.Boxes) (k2 : Sl (fun w => Gm w ∧ ∀ k, k < W.heap.size → w.heap[k]? = W.heap[k]?) b d m.Units) (hok : law_asmr 1000000 m = some true) :
    CallsV Tryz.prog 3 [.agg ⟨[.slice a m.Boxes.length c, .slice b m.Units.length d]⟩] W fun v w => v = .bool true ∧ Grow W w := by
  have hS : Sq (fun w => Gm w ∧ ∀ k, k < W.heap.size → w.heap[k]? = W.heap[k]?) W W [] := Sep.start W _ _ (hG.and fun w' _ hb k hk => hb k hk trivial)
  refine (law_asmr_w (fu := 1000000) (fun _ h => h.1) k1 k2 hok hS).mono ?_
  rintro v w' ⟨μ', rfl, hle, hS'⟩
  have hk := hle _ hS'.a
  exact ⟨rfl, hS'.keeps.os, hS'.keeps.tape, hS'.keeps.output, hS'.keeps.size, fun k hk' _ => hk.2 k hk'⟩
theorem bulk_pos {H : Type} (d : DataW H) : 1 ≤ Rows.uptoBulk d := by
  cases d with
  | lit l => cases l <;> simp [Rows.uptoBulk]
  | _ => simp [Rows.uptoBulk]
theorem bulk_mem {H : Type} : ∀ {ds : List (DataW H)} {d : DataW H}, d ∈ ds → Rows.uptoBulk d ≤ Rows.uptoBulkAll ds
  | e :: ds, d, h => by
    rw [Rows.uptoBulkAll]
    rcases List.mem_cons.1 h with rfl | h
    · omega
    · have := bulk_mem h; omega
  | [], d, h => by cases h
theorem bulk_len {H : Type} : ∀ ds : List (DataW H), ds.length ≤ Rows.uptoBulkAll ds
  | [] => by simp
  | d :: ds => by
    rw [Rows.uptoBulkAll]
    have := bulk_len ds
    have := bulk_pos d
    simp; omega
theorem upok {H : Type} : UpOk (fun d : DataW H => Rows.uptoBulk d ≤ 1048576) where
  ag ps h p hp := by
    rw [Rows.uptoBulk] at h
    have := bulk_mem hp
    omega
  sl es sp h := by
    rw [Rows.uptoBulk] at h
    have := bulk_len es
    refine ⟨by omega, fun p hp => ?_⟩
    have := bulk_mem hp
    omega
theorem ml : ML Tryz.prog 3 2 38 56 22 43 39 41 23 25 := ⟨Tryz.underlying3, Tryz.underlying2, Tryz.underlying38, ⟨⟨_, Tryz.underlying56, by kernel_rfl, by kernel_rfl⟩⟩, Tryz.underlying22, ⟨⟨_, Tryz.underlying43, by kernel_rfl, by kernel_rfl⟩⟩, Tryz.underlying39, ⟨⟨_, Tryz.underlying41, by kernel_rfl, by kernel_rfl⟩⟩, Tryz.underlying23, ⟨⟨_, Tryz.underlying25, by kernel_rfl, by kernel_rfl⟩⟩, ⟨by kernel_rfl, by kernel_rfl, by kernel_rfl, by kernel_rfl, by kernel_rfl, by kernel_rfl⟩⟩
theorem own : ownKnob Tryz.prog.godebug = none := by kernel_rfl
theorem laidOut : laidOutB Tryz.prog = true := by kernel_rfl
set_option maxRecDepth 100000 in
set_option maxHeartbeats 4000000 in
theorem contract (H : Type) (enc : TypeId × Value → H) (W : World) (base : Nat) (args : Array Value) (ds gs : List (DataW H)) (before : List MemPlace)
    (hval : ∀ (j : Nat) t v, Tryz.f3.params[j]? = some t → args[j]? = some v → Value.okWide Tryz.prog W .any base t v)
    (hW : DataW.Whole enc Tryz.prog Tryz.f3.params.toList Rows.asmRightSpec.vars false W args.toList ds gs before) (hz : Rows.uptoSmall H (ds ++ gs) = true) (hL : laidMetH Tryz.prog Rows.asmRightUptoRow.laid W) (hsh : W.ShapedOpen Tryz.prog) :
    Calls Tryz.prog 3 args W fun e W' => ∃ v, e = .returned v ∧ Rows.asmRightSpec.post enc Tryz.prog Tryz.f3 false true false false W args v W' := by
  have hW' := hW
  obtain ⟨p, q, hA0, hV, rfl, hfz, hnd⟩ := hW
  have hA : DataW.TrodAll enc Tryz.prog W 0 (fun _ => true) true Tryz.f3.params.toList args.toList ds p := hA0
  rw [Tryz.params3] at hA hval
  obtain ⟨v0, vs0, d0_, ds0, p0, q0, hargs0, rfl, rfl, h0, r0⟩ := trodAll_cons hA
  obtain ⟨rfl, rfl, rfl⟩ := trodAll_nil r0
  obtain rfl : args = #[v0] := by cases args; simp_all
  obtain ⟨rfl, rfl⟩ := trodVars_none hV
  clear hA0
  simp only [List.append_nil] at hW' hz
  have hlt := hW'.lt
  have hz0 : Rows.uptoBulk d0_ ≤ 1048576 := Nat.le_trans (bulk_mem (by simp)) (of_decide_eq_true hz)
  obtain ⟨a, b, c, d, m, hl0, k1, k2, hm0⟩ := mod_in (μ := fun w => Gm w ∧ ∀ k, k < W.heap.size → w.heap[k]? = W.heap[k]?) upok ml (fun w h => h.2) h0 hz0 (by obtain ⟨cs, h, -⟩ := okWide_struct Tryz.underlying25 (hval 0 25 v0 rfl rfl); exact ⟨cs, h⟩)
  have walk := (law_c W (gm_of_laid hL hsh) k1 k2 (law_asmr_ok hm0)).out
  rw [← hl0] at walk
  refine walk.mono fun e W' he => ?_
  cases e with
  | panicked c => exact he.elim
  | outgrown => exact he.elim
  | returned v =>
    obtain ⟨rfl, hg⟩ := he
    exact ⟨_, rfl, _, _, _, [], _, [], hW', trodAll_cons_mk (shut_bool Tryz.underlying4 _) trodAll_mk0, (trodAll_cons_mk (Below.trod laidOut (by kernel_rfl) (of_decide_eq_true (by kernel_rfl)) h0 hg.below (fun x hx => hlt x (by simp [hx]))) trodAll_mk0), rfl, hg.below.frame _, fun h => by cases h⟩
set_option maxRecDepth 100000 in
theorem lifted (os : Os) (started : os.Started) (H : Type) (enc : TypeId × Value → H) (F : Stop.Interp) :
    ReturnsInHanded {} Tryz.checked os 3 .any ((Rows.OpenSpec.upto Rows.asmRightSpec).preRow enc Tryz.prog Tryz.f3 Rows.asmRightUptoRow.domain false Rows.asmRightUptoRow.laid) (((Rows.OpenSpec.upto Rows.asmRightSpec).at F).post enc Tryz.prog Tryz.f3 false true false false) := by
  have hx : ∃ places, DataW.whole enc Tryz.prog ((World.laidAll Tryz.prog os Rows.asmRightUptoRow.laid).forCall (fun _ _ => 0) ⟨#[], #[.agg ⟨[.slice none 0 0, .slice none 0 0]⟩], []⟩).memory Tryz.f3.params.toList Rows.asmRightSpec.vars false (#[.agg ⟨[.slice none 0 0, .slice none 0 0]⟩] : Array Value).toList 8 = some ([.agg [.nil, .nil]], [], places) := ⟨[], by kernel_rfl⟩
  obtain ⟨places, hx⟩ := hx
  have hok : Input.okWideB Tryz.prog ((World.laidAll Tryz.prog os Rows.asmRightUptoRow.laid).forCall (fun _ _ => 0) ⟨#[], #[.agg ⟨[.slice none 0 0, .slice none 0 0]⟩], []⟩) 3 ⟨#[], #[.agg ⟨[.slice none 0 0, .slice none 0 0]⟩], []⟩ = true := by kernel_rfl
  refine returnsInHanded_of_row (C := Tryz.checked) (s := Rows.OpenSpec.upto Rows.asmRightSpec) own started (by kernel_rfl) Tryz.func3
    ⟨World.laidAll Tryz.prog os Rows.asmRightUptoRow.laid, fun _ _ => 0, ⟨#[], #[.agg ⟨[.slice none 0 0, .slice none 0 0]⟩], []⟩, World.laidAll_os _ _ _, World.shaped_of_ZipB (by kernel_rfl) (by kernel_rfl), (Input.okWide_of_okWideB (base := 0) hok).1, (Input.okWide_of_okWideB hok).2,
      OpenSpec.preRow_of_cond 8 hx (by kernel_rfl) (fun k hk => by cases hk; rfl) (by kernel_rfl) (by rw [MakeChecks.laidMetH_plain _ _ _ (by kernel_rfl)]; exact laidMet_laidAll _ (by kernel_rfl) (by kernel_rfl)), by
        simp only [Assume.holds]
        exact ⟨by simp, by simp, fun _ => Modest.zero, by simp, by simp⟩⟩ ?_
  intro W base args ds gs before hval hW _ hk _ hL hsh _
  exact contract H enc W base args ds gs before hval hW (hk _ rfl) hL hsh
theorem said : Rows.AsmRightUptoSaid :=
  OpenClaim.holds_of_cond 3 Tryz.f3 rfl rfl rfl rfl rfl rfl rfl ⟨rfl, rfl, rfl, rfl, rfl⟩ rfl rfl rfl rfl rfl (by kernel_rfl) Tryz.func3 (by kernel_rfl)
    (of_decide_eq_true (by kernel_rfl)) (by unfold Func.isWrapper; first | (rw [if_pos (by decide +kernel)]; kernel_rfl) | (rw [if_neg (by decide +kernel)]; exact ⟨rfl, rfl⟩))
    (fun os started H enc _ F => by rw [OpenClaim.pre_eq_preRow]; exact lifted os started H enc F)
theorem plain (f : FuncId) (fn : Func) (hf : Tryz.pinned.checked.prog.funcNamed Rows.asmRightUptoRow.func = some f) (hfn : Tryz.pinned.checked.prog.funcs[f]? = some fn) :
    true = Tryz.pinned.checked.prog.looks [] ∧ ∀ (j : Nat) t, fn.params[j]? = some t → Tryz.pinned.checked.prog.wantsStandIn t = false := by
  obtain rfl : f = 3 := Option.some.inj ((show Tryz.prog.funcNamed Rows.asmRightUptoRow.func = some 3 by kernel_rfl).symm.trans hf) |>.symm
  obtain rfl : fn = Tryz.f3 := (Option.some.inj (Tryz.func3.symm.trans hfn)).symm
  refine ⟨by kernel_rfl, fun j t ht => ?_⟩
  rw [Tryz.params3] at ht
  have hm : t ∈ [25] := by
    first
      | simpa using Array.mem_of_getElem? ht
      | (have := Array.mem_of_getElem? ht; simp at this ⊢; exact this.symm)
  simp only [List.mem_cons, List.not_mem_nil, or_false] at hm
  subst hm
  exact (show Tryz.prog.wantsStandIn 25 = false by kernel_rfl)
theorem card : Rows.AsmRightUptoCardSaid :=
  Claim7.holds_tied_plain_at .later [] _ _ _ _ said (fun _ h => by cases h) (by kernel_rfl) (fun _ h => by cases h) asmRightUpto_row_tie rfl ⟨rfl, rfl⟩ (by kernel_rfl) rfl plain (by kernel_rfl)
end Go.Proofs.YtppgfpelddpnbaaGreatDoor.asmRight
