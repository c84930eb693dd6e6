/- GraphTells: the statement holds for every input. -/
import Derived.Test.YteiemedhecjgiaaCXt
import Derived.ChangeSlices
import Derived.ChangeShapes
import Derived.Test.YteiemedhecjgiaaCMd
import Derived.ChangeArms
import Derived.Test.YteiemedhecjgiaaCPl
import Derived.SizedLaws
import Derived.Test.YteiemedhecjgiaaRows
import Derived.WalkKit
import Derived.ProofKit
import Derived.OpenShut
import Derived.Deep.DeepHandedRow
import Derived.Lay
import Derived.Shelf.Vars
import Derived.Carry
import Derived.LaidSub
import Derived.MakeChecks
import Derived.Test.YteiemedhecjgiaaCWm
import Derived.Test.YteiemedhecjgiaaCPm
set_option linter.unusedSimpArgs false
set_option linter.unusedVariables false
set_option linter.unusedSectionVars false
namespace Go.Xt
open Go.Wk Go.RowKit Go.ChangeShapes
section
variable {H : Type} {enc : TypeId × Value → H} {P : Program} {W : World} {d : DataW H} {ps : List MemPlace} {v : Value}
theorem cell_lt {w : World} {b i : Nat} {v : Value} (h : w.cell? ⟨b, i, none⟩ = some v) : b < w.heap.size := by
  refine Decidable.byContradiction fun hn => ?_
  have : w.heap[b]? = none := Array.getElem?_eq_none (by omega)
  simp [World.cell?, this] at h
theorem cell_keep {w w' : World} {b i : Nat} {v : Value} (h : w.cell? ⟨b, i, none⟩ = some v) (hk : ∀ k, k < w.heap.size → w'.heap[k]? = w.heap[k]?) : w'.cell? ⟨b, i, none⟩ = some v := by
  have hl := cell_lt h
  simpa [World.cell?, hk b hl] using h
theorem ints_in {t e : TypeId} {μ : M} (ht : P.underlying t = some (.slice e)) (he : P.underlying e = some (.int .i64)) (hc : P.cellsOf e = 1) (h : DataW.Trod enc P W 0 (fun _ => true) true t v d ps) (hv : v.cells.toList = [v])
    (hμ : ∀ w, μ w → ∀ k, k < W.heap.size → w.heap[k]? = W.heap[k]?) :
    ∃ (a : Option Addr) (c : Nat) (l : List Int), v = .slice a l.length c ∧ Sl μ a c l ∧ ∀ x ∈ l, -9223372036854775808 ≤ x ∧ x ≤ 9223372036854775807 := by
  obtain ⟨fuel, h⟩ := h
  rw [hv] at h
  rcases open_ints ht he hc h with ⟨e, -⟩ | ⟨a, len, cap, zs, e, -, h1, h2, h3, -, h4, h5⟩
  · cases e
    exact ⟨none, 0, [], rfl, Sl.nil, by simp⟩
  · simp only [if_true] at h3
    cases e
    have hlen : (zs.take len).length = len := by rw [List.length_take]; omega
    refine ⟨some a, cap, zs.take len, by rw [hlen], ⟨by omega, h2, ?_⟩, fun x hx => ?_⟩
    · by_cases h0 : len = 0
      · left; subst h0; simp
      · right
        have hsp : a.spot = none := by
          have := h4 0 (by omega)
          cases hs : a.spot with
          | none => rfl
          | some q =>
            have e : (a.add 0).spot = some q := by simp [Addr.add, hs]
            unfold World.cell? at this
            rw [e] at this
            simp at this
            split at this <;> cases this
        obtain ⟨b, o, s⟩ := a
        simp only at hsp
        subst hsp
        refine ⟨b, o, rfl, fun i => [.int .i64 (zs.getD i 0)], fun i x hx => ⟨fun w hw j u hu => ?_, ?_⟩⟩
        · have hi : i < len := by
            have := (List.getElem?_eq_some_iff.1 hx).1
            omega
          have hj : j = 0 := by
            have := (List.getElem?_eq_some_iff.1 hu).1
            simpa using this
          subst hj
          cases hu
          have hcell := h4 i (by omega)
          rw [add_addr] at hcell
          have := cell_keep hcell (hμ w hw)
          show w.cell? ⟨b, o + i * 1 + 0, none⟩ = _
          rw [Nat.mul_one, Nat.add_zero]
          exact this
        · rw [List.getElem?_take] at hx
          split at hx
          · show _ = _
            simp [List.getD_eq_getElem?_getD, hx]
          · cases hx
    · have := h5 x (List.mem_of_mem_take hx)
      simpa [Lit.wf, IntKind.min, IntKind.max, IntKind.signed, IntKind.bits] using this
theorem bools_in {t e : TypeId} {μ : M} (ht : P.underlying t = some (.slice e)) (he : P.underlying e = some .bool) (hc : P.cellsOf e = 1) (h : DataW.Trod enc P W 0 (fun _ => true) true t v d ps) (hv : v.cells.toList = [v])
    (hμ : ∀ w, μ w → ∀ k, k < W.heap.size → w.heap[k]? = W.heap[k]?) :
    ∃ (a : Option Addr) (c : Nat) (l : List Bool), v = .slice a l.length c ∧ Sl μ a c l ∧ True := by
  obtain ⟨fuel, h⟩ := h
  rw [hv] at h
  rcases DataW.trod_slice ht h with ⟨e, -⟩ | ⟨a, len, cap, elems, rest, n, -, e, -, -, h1, h2, h3, h4, -⟩
  · cases e
    exact ⟨none, 0, [], rfl, Sl.nil, trivial⟩
  · cases e
    have each : ∀ i, i < len → ∃ q : Bool, W.cell? (a.add i) = some (.bool q) := by
      intro i hi
      have hb := h4 i hi
      rw [hc, Nat.mul_one] at hb
      have hlt : i < elems.length := by omega
      rw [List.getElem?_eq_getElem hlt, Option.bind_eq_some_iff] at hb
      obtain ⟨cs, hcs, hy⟩ := hb
      obtain ⟨q, rfl, -⟩ := DataW.trod_bool he hy
      exact ⟨q, cell_of_cells?_one hcs⟩
    let f : Nat → Bool := fun i => if hi : i < len then Classical.choose (each i hi) else false
    have hf : ∀ i, i < len → W.cell? (a.add i) = some (.bool (f i)) := fun i hi => by
      simp only [f, dif_pos hi]
      exact Classical.choose_spec (each i hi)
    refine ⟨some a, cap, (List.range len).map f, by simp, ⟨by simpa using h1, h2, ?_⟩, trivial⟩
    by_cases h0 : len = 0
    · left; subst h0; simp
    · right
      have hsp : a.spot = none := by
        have := hf 0 (by omega)
        cases hs : a.spot with
        | none => rfl
        | some q =>
          have e : (a.add 0).spot = some q := by simp [Addr.add, hs]
          unfold World.cell? at this
          rw [e] at this
          simp at this
          split at this <;> cases this
      obtain ⟨b, o, s⟩ := a
      simp only at hsp
      subst hsp
      refine ⟨b, o, rfl, fun i => [.bool (f i)], fun i x hx => ⟨fun w hw j u hu => ?_, ?_⟩⟩
      · have hi : i < len := by
          have := (List.getElem?_eq_some_iff.1 hx).1
          simpa using this
        have hj : j = 0 := by
          have := (List.getElem?_eq_some_iff.1 hu).1
          simpa using this
        subst hj
        cases hu
        have hcell := hf i hi
        rw [add_addr] at hcell
        have := cell_keep hcell (hμ w hw)
        show w.cell? ⟨b, o + i * 1 + 0, none⟩ = _
        rw [Nat.mul_one, Nat.add_zero]
        exact this
      · have hi : i < len := by
          have := (List.getElem?_eq_some_iff.1 hx).1
          simpa using this
        simp [hi] at hx
        show [Value.bool (f i)] = [Value.bool x]
        rw [hx]
end
end Go.Xt
namespace Go.Xt
open Go.Wk Go.RowKit Go.ChangeShapes Go.Y
section
variable {H : Type} {enc : TypeId × Value → H} {P : Program} {W : World} {sp : Nat → Bool} {held : Bool} {μ : M}
def Olds (W : World) (μ : M) : Prop := ∀ w, μ w → ∀ k, k < W.heap.size → w.heap[k]? = W.heap[k]?
theorem mapM_all {α β : Type} {f : α → Option β} : ∀ {l : List α} {ys : List β}, l.mapM f = some ys → ∀ x ∈ l, ∃ y, f x = some y := by
  intro l
  induction l with
  | nil => intro ys _ x hx; cases hx
  | cons a l ih =>
    intro ys h x hx
    rw [List.mapM_cons] at h
    cases ha : f a with
    | none => rw [ha] at h; cases h
    | some b =>
      rw [ha] at h
      cases hl : l.mapM f with
      | none => rw [hl] at h; cases h
      | some bs =>
        rcases List.mem_cons.1 hx with rfl | hx
        · exact ⟨b, ha⟩
        · exact ih hl x hx
structure SF (P : Program) (T : TypeId) (fl : List (TypeId × Nat)) (n : Nat) : Prop where
  out : ∃ fs, P.underlying T = some (.struct fs) ∧ (fs.toList.map fun f => (f.type, f.offset)) = fl ∧ P.cellsOf T = n
theorem SF.size {T : TypeId} {fl : List (TypeId × Nat)} {n : Nat} (h : SF P T fl n) : P.cellsOf T = n := by
  obtain ⟨fs, -, -, h⟩ := h.out
  exact h
theorem in_sf {T : TypeId} {fl : List (TypeId × Nat)} {n fuel : Nat} {cs : List Value} {r : DataW H × List MemPlace} (hs : SF P T fl n) (h : DataW.trod enc P W 0 sp held (fuel + 1) T cs = some r) :
    cs.length = n ∧ ∀ p ∈ fl, ∃ r', DataW.trod enc P W 0 sp held fuel p.1 ((cs.drop p.2).take (P.cellsOf p.1)) = some r' := by
  obtain ⟨fs, hu, hf, hc⟩ := hs.out
  by_cases hl : cs.length = P.cellsOf T
  · refine ⟨hl.trans hc, ?_⟩
    have h2 : ∃ ys, fs.toList.mapM (fun f => DataW.trod enc P W 0 sp held fuel f.type ((cs.drop f.offset).take (P.cellsOf f.type))) = some ys := by
      unfold DataW.trod at h
      simp only [hu, hl, if_true] at h
      cases hm : fs.toList.mapM (fun f => DataW.trod enc P W 0 sp held fuel f.type ((cs.drop f.offset).take (P.cellsOf f.type))) with
      | none => rw [hm] at h; cases h
      | some ys => exact ⟨ys, rfl⟩
    obtain ⟨ys, hy⟩ := h2
    intro p hp
    rw [← hf] at hp
    obtain ⟨f, hfm, rfl⟩ := List.mem_map.1 hp
    exact mapM_all hy f hfm
  · unfold DataW.trod at h
    simp only [hu, hl, if_false] at h
    cases h
theorem in_i64 {t : TypeId} {fuel : Nat} {cs : List Value} {r : DataW H × List MemPlace} (ht : P.underlying t = some (.int .i64)) (h : DataW.trod enc P W 0 sp held fuel t cs = some r) : ∃ n, cs = [.int .i64 n] := by
  obtain ⟨n, hc, -, -⟩ := DataW.trod_int ht h
  exact ⟨n, hc⟩
theorem in_str {t : TypeId} {fuel : Nat} {cs : List Value} {r : DataW H × List MemPlace} (ht : P.underlying t = some .string) (h : DataW.trod enc P W 0 sp held fuel t cs = some r) : ∃ s, cs = [S s] := by
  obtain ⟨⟨⟨s⟩⟩, hc, -, -⟩ := DataW.trod_string ht h
  exact ⟨s, hc⟩
theorem cells_in {a : Addr} {m : Nat} {cs : List Value} (h : W.cells? 0 a m = some cs) : cs.length = m ∧ ∀ i v, cs[i]? = some v → W.cell? (a.add i) = some v := by
  unfold World.cells? at h
  rw [if_pos (Nat.zero_le _)] at h
  have hl := mapM_some_length h
  refine ⟨by simpa using hl, fun i v hi => ?_⟩
  have hlt : i < m := by have := (List.getElem?_eq_some_iff.1 hi).1; rw [hl] at this; simpa using this
  rw [← hi]
  exact mapM_some_get h i i (by simp [hlt])
theorem in_sl {α : Type} [Mo α] {fuel : Nat} {T e : TypeId} {cs : List Value} {r : DataW H × List MemPlace} (hu : P.underlying T = some (.slice e)) (hm : P.cellsOf e = Mo.sz α) (hμ : Olds W μ) (h : DataW.trod enc P W 0 sp held fuel T cs = some r)
    (hE : ∀ n cs r', n < fuel → DataW.trod enc P W 0 sp held n e cs = some r' → ∃ x : α, Mo.cs μ cs x) : ∃ (a : Option Addr) (c : Nat) (l : List α), cs = [.slice a l.length c] ∧ Sl μ a c l := by
  rcases DataW.trod_slice hu h with ⟨rfl, -⟩ | ⟨a, len, cap, elems, rest, n, rfl, rfl, -, -, h1, h2, h3, h4, -⟩
  · exact ⟨none, 0, [], rfl, Sl.nil⟩
  · rcases Nat.eq_zero_or_pos len with h0 | h0
    · subst h0
      exact ⟨some a, cap, [], rfl, ⟨by simp, h2, .inl rfl⟩⟩
    · have each : ∀ i, i < len → ∃ cs, cs.length = Mo.sz α ∧ (∀ j v, cs[j]? = some v → W.cell? ((a.add (i * Mo.sz α)).add j) = some v) ∧ ∃ x : α, Mo.cs μ cs x := by
        intro i hi
        have he := h4 i hi
        rw [hm] at he
        obtain ⟨y, hy⟩ : ∃ y, elems[i]? = some y := ⟨_, List.getElem?_eq_getElem (by omega)⟩
        rw [hy] at he
        cases hc : W.cells? 0 (a.add (i * Mo.sz α)) (Mo.sz α) with
        | none => rw [hc] at he; cases he
        | some cs =>
          rw [hc] at he
          exact ⟨cs, (cells_in hc).1, (cells_in hc).2, hE n cs y (Nat.lt_succ_self _) he⟩
      have hspot : a.spot = none := by
        obtain ⟨cs, hl, hc, -⟩ := each 0 h0
        have hp := Mo.pos (α := α)
        obtain ⟨v, hv⟩ : ∃ v, cs[0]? = some v := ⟨_, List.getElem?_eq_getElem (by omega)⟩
        have := hc 0 v hv
        cases hs : a.spot with
        | none => rfl
        | some q =>
          have e : ((a.add (0 * Mo.sz α)).add 0).spot = some q := by simp [Addr.add, hs]
          unfold World.cell? at this
          rw [e] at this
          simp at this
          split at this <;> cases this
      obtain ⟨b, o, s⟩ := a
      simp only at hspot
      subst hspot
      have hch : ∃ g : Nat → List Value, ∃ f : Nat → α, ∀ i, i < len → (∀ j v, (g i)[j]? = some v → W.cell? (((⟨b, o, none⟩ : Addr).add (i * Mo.sz α)).add j) = some v) ∧ Mo.cs μ (g i) (f i) := by
        have ne : Nonempty α := by obtain ⟨_, -, -, x, -⟩ := each 0 h0; exact ⟨x⟩
        refine ⟨fun i => if hi : i < len then Classical.choose (each i hi) else [], fun i => if hi : i < len then Classical.choose (Classical.choose_spec (each i hi)).2.2 else Classical.choice ne, fun i hi => ?_⟩
        simp only [dif_pos hi]
        exact ⟨(Classical.choose_spec (each i hi)).2.1, Classical.choose_spec (Classical.choose_spec (each i hi)).2.2⟩
      obtain ⟨g, f, hf⟩ := hch
      refine ⟨some ⟨b, o, none⟩, cap, (List.range' 0 len).map f, by simp, ⟨by simp; omega, h2, .inr ⟨b, o, rfl, g, fun i x hx => ?_⟩⟩⟩
      have hi : i < len := by
        have := (List.getElem?_eq_some_iff.1 hx).1
        simpa using this
      have hxf : x = f i := by
        rw [List.getElem?_map, List.getElem?_range' hi] at hx
        simpa using hx.symm
      obtain ⟨k1, k2⟩ := hf i hi
      rw [hxf]
      refine ⟨fun w hw j v hj => ?_, k2⟩
      have := k1 j v hj
      rw [add_addr, add_addr] at this
      exact cell_keep this (hμ w hw)
structure TL (P : Program) (tI tN tS tTy tEx tEs tSt tSs tPa tPs tDe tDs : TypeId) : Prop where
  i : P.underlying tI = some (.int .i64)
  n : P.underlying tN = some (.int .i64)
  s : P.underlying tS = some .string
  ty : SF P tTy [(tI, 0), (tS, 1)] 2
  ex : SF P tEx [(tI, 0), (tN, 1), (tS, 2), (tEs, 3)] 4
  es : P.underlying tEs = some (.slice tEx)
  st : SF P tSt [(tI, 0), (tS, 1), (tEx, 2), (tSs, 6), (tSs, 7)] 8
  ss : P.underlying tSs = some (.slice tSt)
  pa : SF P tPa [(tS, 0), (tTy, 1)] 3
  ps : P.underlying tPs = some (.slice tPa)
  de : SF P tDe [(tI, 0), (tS, 1), (tTy, 2), (tTy, 4), (tI, 6), (tPs, 7), (tSs, 8)] 9
  ds : P.underlying tDs = some (.slice tDe)
  one : P.cellsOf tI = 1 ∧ P.cellsOf tN = 1 ∧ P.cellsOf tS = 1 ∧ P.cellsOf tEs = 1 ∧ P.cellsOf tSs = 1 ∧ P.cellsOf tPs = 1
variable {tI tN tS tTy tEx tEs tSt tSs tPa tPs tDe tDs : TypeId}
theorem in_ty (L : TL P tI tN tS tTy tEx tEs tSt tSs tPa tPs tDe tDs) {fuel : Nat} {cs : List Value} {r : DataW H × List MemPlace} (h : DataW.trod enc P W 0 sp held fuel tTy cs = some r) : ∃ t : TType, cs = [.int .i64 t.Kind, S t.Gen] := by
  cases fuel with
  | zero => cases h
  | succ fuel =>
    obtain ⟨hl, hf⟩ := in_sf L.ty h
    obtain ⟨_, h0⟩ := hf (tI, 0) (by simp)
    obtain ⟨_, h1⟩ := hf (tS, 1) (by simp)
    simp only [L.one] at h0 h1
    match cs, hl with
    | [a, b], _ =>
      obtain ⟨k, e0⟩ := in_i64 L.i h0
      obtain ⟨g, e1⟩ := in_str L.s h1
      simp at e0 e1
      subst e0; subst e1
      exact ⟨⟨k, g⟩, rfl⟩
theorem in_ex (L : TL P tI tN tS tTy tEx tEs tSt tSs tPa tPs tDe tDs) (hμ : Olds W μ) : ∀ (n fuel : Nat) (cs : List Value) (r : DataW H × List MemPlace), fuel ≤ n → DataW.trod enc P W 0 sp held fuel tEx cs = some r → ∃ x : TExpr, Mo.cs μ cs x := by
  intro n
  induction n with
  | zero => intro fuel cs r hn h; cases fuel with | zero => cases h | succ f => omega
  | succ n ih =>
    intro fuel cs r hn h
    cases fuel with
    | zero => cases h
    | succ fuel =>
      obtain ⟨hl, hf⟩ := in_sf L.ex h
      obtain ⟨_, h0⟩ := hf (tI, 0) (by simp)
      obtain ⟨_, h1⟩ := hf (tN, 1) (by simp)
      obtain ⟨_, h2⟩ := hf (tS, 2) (by simp)
      obtain ⟨_, h3⟩ := hf (tEs, 3) (by simp)
      simp only [L.one] at h0 h1 h2 h3
      match cs, hl with
      | [a, b, c, d], _ =>
        obtain ⟨k, e0⟩ := in_i64 L.i h0
        obtain ⟨m, e1⟩ := in_i64 L.n h1
        obtain ⟨g, e2⟩ := in_str L.s h2
        obtain ⟨a', c', l, e3, k3⟩ := in_sl (α := TExpr) L.es L.ex.size hμ h3 fun f cs r' hf h => ih f cs r' (by omega) h
        simp at e0 e1 e2 e3
        subst e0; subst e1; subst e2; subst e3
        exact ⟨⟨k, m, g, l⟩, TExpr.i ⟨a', c', rfl, k3⟩⟩
theorem in_st (L : TL P tI tN tS tTy tEx tEs tSt tSs tPa tPs tDe tDs) (hμ : Olds W μ) : ∀ (n fuel : Nat) (cs : List Value) (r : DataW H × List MemPlace), fuel ≤ n → DataW.trod enc P W 0 sp held fuel tSt cs = some r → ∃ x : TStat, Mo.cs μ cs x := by
  intro n
  induction n with
  | zero => intro fuel cs r hn h; cases fuel with | zero => cases h | succ f => omega
  | succ n ih =>
    intro fuel cs r hn h
    cases fuel with
    | zero => cases h
    | succ fuel =>
      obtain ⟨hl, hf⟩ := in_sf L.st h
      obtain ⟨_, h0⟩ := hf (tI, 0) (by simp)
      obtain ⟨_, h1⟩ := hf (tS, 1) (by simp)
      obtain ⟨_, h2⟩ := hf (tEx, 2) (by simp)
      obtain ⟨_, h3⟩ := hf (tSs, 6) (by simp)
      obtain ⟨_, h4⟩ := hf (tSs, 7) (by simp)
      simp only [L.one, L.ex.size] at h0 h1 h2 h3 h4
      match cs, hl with
      | [a, b, c0, c1, c2, c3, d, e], _ =>
        obtain ⟨k, e0⟩ := in_i64 L.i h0
        obtain ⟨g, e1⟩ := in_str L.s h1
        obtain ⟨x, k2⟩ := in_ex L hμ _ _ _ _ (Nat.le_refl _) h2
        obtain ⟨a2, q2, l, e3, k3⟩ := in_sl (α := TStat) L.ss L.st.size hμ h3 fun f cs r' hf h => ih f cs r' (by omega) h
        obtain ⟨a3, q3, l', e4, k4⟩ := in_sl (α := TStat) L.ss L.st.size hμ h4 fun f cs r' hf h => ih f cs r' (by omega) h
        obtain ⟨a1, q1, ec, k1⟩ := TExpr.o k2
        simp at e0 e1 e3 e4 ec
        obtain ⟨rfl, rfl, rfl, rfl⟩ := ec
        subst e0; subst e1; subst e3; subst e4
        exact ⟨⟨k, g, x, l, l'⟩, TStat.i ⟨a1, q1, a2, q2, a3, q3, rfl, k1, k3, k4⟩⟩
theorem in_pa (L : TL P tI tN tS tTy tEx tEs tSt tSs tPa tPs tDe tDs) {fuel : Nat} {cs : List Value} {r : DataW H × List MemPlace} (h : DataW.trod enc P W 0 sp held fuel tPa cs = some r) : ∃ x : TParam, Mo.cs μ cs x := by
  cases fuel with
  | zero => cases h
  | succ n =>
    obtain ⟨hl, hf⟩ := in_sf L.pa h
    obtain ⟨_, h0⟩ := hf (tS, 0) (by simp)
    obtain ⟨_, h1⟩ := hf (tTy, 1) (by simp)
    simp only [L.one, L.ty.size] at h0 h1
    match cs, hl with
    | [a, b, c], _ =>
      obtain ⟨nm, e0⟩ := in_str L.s h0
      obtain ⟨t, e1⟩ := in_ty L h1
      simp at e0 e1
      obtain ⟨rfl, rfl⟩ := e1
      subst e0
      exact ⟨⟨nm, t⟩, rfl⟩
theorem in_de (L : TL P tI tN tS tTy tEx tEs tSt tSs tPa tPs tDe tDs) (hμ : Olds W μ) {fuel : Nat} {cs : List Value} {r : DataW H × List MemPlace} (h : DataW.trod enc P W 0 sp held fuel tDe cs = some r) : ∃ x : TDef, Mo.cs μ cs x := by
  cases fuel with
  | zero => cases h
  | succ fuel =>
    obtain ⟨hl, hf⟩ := in_sf L.de h
    obtain ⟨_, h0⟩ := hf (tI, 0) (by simp)
    obtain ⟨_, h1⟩ := hf (tS, 1) (by simp)
    obtain ⟨_, h2⟩ := hf (tTy, 2) (by simp)
    obtain ⟨_, h3⟩ := hf (tTy, 4) (by simp)
    obtain ⟨_, h4⟩ := hf (tI, 6) (by simp)
    obtain ⟨_, h5⟩ := hf (tPs, 7) (by simp)
    obtain ⟨_, h6⟩ := hf (tSs, 8) (by simp)
    simp only [L.one, L.ty.size] at h0 h1 h2 h3 h4 h5 h6
    match cs, hl with
    | [a, b, c0, c1, d0, d1, e, f, g], _ =>
      obtain ⟨k, e0⟩ := in_i64 L.i h0
      obtain ⟨nm, e1⟩ := in_str L.s h1
      obtain ⟨t, e2⟩ := in_ty L h2
      obtain ⟨t', e3⟩ := in_ty L h3
      obtain ⟨cp, e4⟩ := in_i64 L.i h4
      obtain ⟨a1, q1, l, e5, k5⟩ := in_sl (α := TParam) L.ps L.pa.size hμ h5 fun n cs r' _ h => in_pa L h
      obtain ⟨a2, q2, l', e6, k6⟩ := in_sl (α := TStat) L.ss L.st.size hμ h6 fun n cs r' _ h => in_st L hμ _ _ _ _ (Nat.le_refl _) h
      simp at e0 e1 e2 e3 e4 e5 e6
      obtain ⟨rfl, rfl⟩ := e2
      obtain ⟨rfl, rfl⟩ := e3
      subst e0; subst e1; subst e4; subst e5; subst e6
      exact ⟨⟨k, nm, t, t', cp, l, l'⟩, a1, q1, a2, q2, rfl, k5, k6⟩
theorem defs_in (L : TL P tI tN tS tTy tEx tEs tSt tSs tPa tPs tDe tDs) (hμ : Olds W μ) {v : Value} {d : DataW H} {ps : List MemPlace} (h : DataW.Trod enc P W 0 sp held tDs v d ps) (hv : v.cells.toList = [v]) : ∃ (a : Option Addr) (c : Nat) (l : List TDef), v = .slice a l.length c ∧ Sl μ a c l := by
  obtain ⟨fuel, h⟩ := h
  obtain ⟨a, c, l, e, k⟩ := in_sl (α := TDef) L.ds L.de.size hμ h fun n cs r' _ h => in_de L hμ h
  rw [hv] at e
  cases e
  exact ⟨a, c, l, rfl, k⟩
end
end Go.Xt
namespace Go.Xt
open Go.Wk Go.RowKit Go.ChangeShapes Go.Y
section
variable {H : Type} {enc : TypeId × Value → H} {P : Program} {W : World} {sp : Nat → Bool} {held : Bool} {μ : M}
def Lo (P : Program) (T : TypeId) (d : DataW H) : Prop := ∀ n ∈ d.weights P T, n ≤ reachBytes
theorem mapM_idx {α β : Type} {f : α → Option β} : ∀ {l : List α} {ys : List β}, l.mapM f = some ys → ys.length = l.length ∧ ∀ (i : Nat) (x : α), l[i]? = some x → ∃ y, ys[i]? = some y ∧ f x = some y := by
  intro l
  induction l with
  | nil => intro ys h; cases h; exact ⟨rfl, fun i x hx => by simp at hx⟩
  | cons a l ih =>
    intro ys h
    rw [List.mapM_cons] at h
    cases ha : f a with
    | none => rw [ha] at h; cases h
    | some b =>
      rw [ha] at h
      cases hl : l.mapM f with
      | none => rw [hl] at h; cases h
      | some bs =>
        rw [hl] at h
        cases h
        obtain ⟨h1, h2⟩ := ih hl
        refine ⟨by simp [h1], fun i x hx => ?_⟩
        cases i with
        | zero => cases hx; exact ⟨b, rfl, ha⟩
        | succ i => exact h2 i x hx
theorem inz_sf {T : TypeId} {fl : List (TypeId × Nat)} {n fuel : Nat} {cs : List Value} {r : DataW H × List MemPlace} (hs : SF P T fl n) (h : DataW.trod enc P W 0 sp held (fuel + 1) T cs = some r) (hz : Lo P T r.1) :
    cs.length = n ∧ ∀ (i : Nat) (p : TypeId × Nat), fl[i]? = some p → ∃ r', DataW.trod enc P W 0 sp held fuel p.1 ((cs.drop p.2).take (P.cellsOf p.1)) = some r' ∧ Lo P p.1 r'.1 := by
  obtain ⟨fs, hu, hf, hc⟩ := hs.out
  by_cases hl : cs.length = P.cellsOf T
  · refine ⟨hl.trans hc, ?_⟩
    have h2 : ∃ ys, fs.toList.mapM (fun f => DataW.trod enc P W 0 sp held fuel f.type ((cs.drop f.offset).take (P.cellsOf f.type))) = some ys ∧ r.1 = .agg (ys.map (·.1)) := by
      unfold DataW.trod at h
      simp only [hu, hl, if_true] at h
      cases hm : fs.toList.mapM (fun f => DataW.trod enc P W 0 sp held fuel f.type ((cs.drop f.offset).take (P.cellsOf f.type))) with
      | none => rw [hm] at h; cases h
      | some ys => rw [hm] at h; cases h; exact ⟨ys, rfl, rfl⟩
    obtain ⟨ys, hy, hr⟩ := h2
    obtain ⟨m1, m2⟩ := mapM_idx hy
    intro i p hp
    rw [← hf, List.getElem?_map] at hp
    obtain ⟨f, hf1, rfl⟩ := Option.map_eq_some_iff.1 hp
    obtain ⟨y, hy1, hy2⟩ := m2 i f hf1
    refine ⟨y, hy2, fun k hk => hz k ?_⟩
    rw [hr, DataW.weights, hu]
    exact DataW.weights_mem_each (j := i) (by rw [List.getElem?_map, hf1]; rfl) (by rw [List.getElem?_map, hy1]; rfl) k hk
  · unfold DataW.trod at h
    simp only [hu, hl, if_false] at h
    cases h
theorem weightsAll_mem {e : TypeId} : ∀ {ds : List (DataW H)} {i : Nat} {d : DataW H}, ds[i]? = some d → ∀ n ∈ d.weights P e, n ∈ DataW.weightsAll P e ds
  | d0 :: ds, 0, d, h, n, hn => by
    cases h
    rw [DataW.weightsAll]
    exact List.mem_append.2 (.inl hn)
  | d0 :: ds, i + 1, d, h, n, hn => by
    rw [DataW.weightsAll]
    exact List.mem_append.2 (.inr (weightsAll_mem (i := i) (by simpa using h) n hn))
  | [], i, d, h, n, hn => by simp at h
theorem inz_sl {α : Type} [Mo α] {B : Nat} {Rz : α → Prop} {fuel : Nat} {T e : TypeId} {cs : List Value} {r : DataW H × List MemPlace} (hu : P.underlying T = some (.slice e)) (hm : P.cellsOf e = Mo.sz α) (hb : reachBytes < (B + 1) * P.bytesOf e) (hμ : Olds W μ) (h : DataW.trod enc P W 0 sp held fuel T cs = some r) (hz : Lo P T r.1)
    (hE : ∀ n cs r', n < fuel → DataW.trod enc P W 0 sp held n e cs = some r' → Lo P e r'.1 → ∃ x : α, Mo.cs μ cs x ∧ Rz x) : ∃ (a : Option Addr) (c : Nat) (l : List α), cs = [.slice a l.length c] ∧ Sl μ a c l ∧ l.length ≤ B ∧ ∀ x ∈ l, Rz x := by
  rcases DataW.trod_slice hu h with ⟨rfl, -⟩ | ⟨a, len, cap, elems, rest, n, rfl, rfl, hr, -, h1, h2, h3, h4, -⟩
  · exact ⟨none, 0, [], rfl, Sl.nil, by simp, by simp⟩
  · have hw : (elems.length + rest.length) * P.bytesOf e ≤ reachBytes := hz _ (by rw [hr]; simp [DataW.weights, hu])
    have hB : len ≤ B := by
      rw [h3] at hw
      rcases Nat.lt_or_ge B len with c | c
      · have : (B + 1) * P.bytesOf e ≤ (len + rest.length) * P.bytesOf e := Nat.mul_le_mul_right _ (by omega)
        omega
      · exact c
    have hzE : ∀ (i : Nat) (y : DataW H × List MemPlace), elems[i]? = some y → Lo P e y.1 := fun i y hy k hk => hz k (by
      rw [hr]
      simp only [DataW.weights, hu]
      refine List.mem_cons_of_mem _ (List.mem_append.2 (.inl ?_))
      exact weightsAll_mem (i := i) (by rw [List.getElem?_map, hy]; rfl) k hk)
    rcases Nat.eq_zero_or_pos len with h0 | h0
    · subst h0
      exact ⟨some a, cap, [], rfl, ⟨by simp, h2, .inl rfl⟩, by simp, by simp⟩
    · have each : ∀ i, i < len → ∃ cs, cs.length = Mo.sz α ∧ (∀ j v, cs[j]? = some v → W.cell? ((a.add (i * Mo.sz α)).add j) = some v) ∧ ∃ x : α, Mo.cs μ cs x ∧ Rz x := by
        intro i hi
        have he := h4 i hi
        rw [hm] at he
        obtain ⟨y, hy⟩ : ∃ y, elems[i]? = some y := ⟨_, List.getElem?_eq_getElem (by omega)⟩
        rw [hy] at he
        cases hc : W.cells? 0 (a.add (i * Mo.sz α)) (Mo.sz α) with
        | none => rw [hc] at he; cases he
        | some cs =>
          rw [hc] at he
          exact ⟨cs, (cells_in hc).1, (cells_in hc).2, hE n cs y (Nat.lt_succ_self _) he (hzE i y hy)⟩
      have hspot : a.spot = none := by
        obtain ⟨cs, hl, hc, -⟩ := each 0 h0
        have hp := Mo.pos (α := α)
        obtain ⟨v, hv⟩ : ∃ v, cs[0]? = some v := ⟨_, List.getElem?_eq_getElem (by omega)⟩
        have := hc 0 v hv
        cases hs : a.spot with
        | none => rfl
        | some q =>
          have e : ((a.add (0 * Mo.sz α)).add 0).spot = some q := by simp [Addr.add, hs]
          unfold World.cell? at this
          rw [e] at this
          simp at this
          split at this <;> cases this
      obtain ⟨b, o, s⟩ := a
      simp only at hspot
      subst hspot
      have hch : ∃ g : Nat → List Value, ∃ f : Nat → α, ∀ i, i < len → (∀ j v, (g i)[j]? = some v → W.cell? (((⟨b, o, none⟩ : Addr).add (i * Mo.sz α)).add j) = some v) ∧ Mo.cs μ (g i) (f i) ∧ Rz (f i) := by
        have ne : Nonempty α := by obtain ⟨_, -, -, x, -⟩ := each 0 h0; exact ⟨x⟩
        refine ⟨fun i => if hi : i < len then Classical.choose (each i hi) else [], fun i => if hi : i < len then Classical.choose (Classical.choose_spec (each i hi)).2.2 else Classical.choice ne, fun i hi => ?_⟩
        simp only [dif_pos hi]
        exact ⟨(Classical.choose_spec (each i hi)).2.1, Classical.choose_spec (Classical.choose_spec (each i hi)).2.2⟩
      obtain ⟨g, f, hf⟩ := hch
      refine ⟨some ⟨b, o, none⟩, cap, (List.range' 0 len).map f, by simp, ⟨by simp; omega, h2, .inr ⟨b, o, rfl, g, fun i x hx => ?_⟩⟩, by simp; omega, fun x hx => ?_⟩
      · have hi : i < len := by
          have := (List.getElem?_eq_some_iff.1 hx).1
          simpa using this
        have hxf : x = f i := by
          rw [List.getElem?_map, List.getElem?_range' hi] at hx
          simpa using hx.symm
        obtain ⟨k1, k2, -⟩ := hf i hi
        rw [hxf]
        refine ⟨fun w hw j v hj => ?_, k2⟩
        have := k1 j v hj
        rw [add_addr, add_addr] at this
        exact cell_keep this (hμ w hw)
      · obtain ⟨i, hi, rfl⟩ := List.mem_map.1 hx
        have hi' : i < len := by simpa using (List.mem_range'_1.1 hi).2
        exact (hf i hi').2.2
structure BL (P : Program) (tEx tSt tPa tDe : TypeId) : Prop where
  ex : P.bytesOf tEx = 56
  st : P.bytesOf tSt = 128
  pa : P.bytesOf tPa = 40
  de : P.bytesOf tDe = 128
variable {tI tN tS tTy tEx tEs tSt tSs tPa tPs tDe tDs : TypeId}
theorem inz_ex (L : TL P tI tN tS tTy tEx tEs tSt tSs tPa tPs tDe tDs) (Z : BL P tEx tSt tPa tDe) (hμ : Olds W μ) : ∀ (n fuel : Nat) (cs : List Value) (r : DataW H × List MemPlace), fuel ≤ n → DataW.trod enc P W 0 sp held fuel tEx cs = some r → Lo P tEx r.1 → ∃ x : TExpr, Mo.cs μ cs x ∧ SzE n x := by
  intro n
  induction n with
  | zero => intro fuel cs r hn h; cases fuel with | zero => cases h | succ f => omega
  | succ n ih =>
    intro fuel cs r hn h hz
    cases fuel with
    | zero => cases h
    | succ fuel =>
      obtain ⟨hl, hf⟩ := inz_sf L.ex h hz
      obtain ⟨_, h0, -⟩ := hf 0 (tI, 0) rfl
      obtain ⟨_, h1, -⟩ := hf 1 (tN, 1) rfl
      obtain ⟨_, h2, -⟩ := hf 2 (tS, 2) rfl
      obtain ⟨_, h3, z3⟩ := hf 3 (tEs, 3) rfl
      simp only [L.one] at h0 h1 h2 h3
      match cs, hl with
      | [a, b, c, d], _ =>
        obtain ⟨k, e0⟩ := in_i64 L.i h0
        obtain ⟨m, e1⟩ := in_i64 L.n h1
        obtain ⟨g, e2⟩ := in_str L.s h2
        obtain ⟨a', c', l, e3, k3, s1, s2⟩ := inz_sl (α := TExpr) (B := 2513169434916) (Rz := SzE n) L.es L.ex.size (by rw [Z.ex]; decide) hμ h3 z3 fun f cs r' hf h z => ih f cs r' (by omega) h z
        simp at e0 e1 e2 e3
        subst e0; subst e1; subst e2; subst e3
        exact ⟨⟨k, m, g, l⟩, TExpr.i ⟨a', c', rfl, k3⟩, s1, s2⟩
theorem inz_st (L : TL P tI tN tS tTy tEx tEs tSt tSs tPa tPs tDe tDs) (Z : BL P tEx tSt tPa tDe) (hμ : Olds W μ) : ∀ (n fuel : Nat) (cs : List Value) (r : DataW H × List MemPlace), fuel ≤ n → DataW.trod enc P W 0 sp held fuel tSt cs = some r → Lo P tSt r.1 → ∃ x : TStat, Mo.cs μ cs x ∧ SzS n x := by
  intro n
  induction n with
  | zero => intro fuel cs r hn h; cases fuel with | zero => cases h | succ f => omega
  | succ n ih =>
    intro fuel cs r hn h hz
    cases fuel with
    | zero => cases h
    | succ fuel =>
      obtain ⟨hl, hf⟩ := inz_sf L.st h hz
      obtain ⟨_, h0, -⟩ := hf 0 (tI, 0) rfl
      obtain ⟨_, h1, -⟩ := hf 1 (tS, 1) rfl
      obtain ⟨_, h2, z2⟩ := hf 2 (tEx, 2) rfl
      obtain ⟨_, h3, z3⟩ := hf 3 (tSs, 6) rfl
      obtain ⟨_, h4, z4⟩ := hf 4 (tSs, 7) rfl
      simp only [L.one, L.ex.size] at h0 h1 h2 h3 h4
      match cs, hl with
      | [a, b, c0, c1, c2, c3, d, e], _ =>
        obtain ⟨k, e0⟩ := in_i64 L.i h0
        obtain ⟨g, e1⟩ := in_str L.s h1
        obtain ⟨x, k2, sx⟩ := inz_ex L Z hμ n _ _ _ (by omega) h2 z2
        obtain ⟨a2, q2, l, e3, k3, s1, s2⟩ := inz_sl (α := TStat) (B := 1099511627776) (Rz := SzS n) L.ss L.st.size (by rw [Z.st]; decide) hμ h3 z3 fun f cs r' hf h z => ih f cs r' (by omega) h z
        obtain ⟨a3, q3, l', e4, k4, s3, s4⟩ := inz_sl (α := TStat) (B := 1099511627776) (Rz := SzS n) L.ss L.st.size (by rw [Z.st]; decide) hμ h4 z4 fun f cs r' hf h z => ih f cs r' (by omega) h z
        obtain ⟨a1, q1, ec, k1⟩ := TExpr.o k2
        simp at e0 e1 e3 e4 ec
        obtain ⟨rfl, rfl, rfl, rfl⟩ := ec
        subst e0; subst e1; subst e3; subst e4
        exact ⟨⟨k, g, x, l, l'⟩, TStat.i ⟨a1, q1, a2, q2, a3, q3, rfl, k1, k3, k4⟩, sx, ⟨s1, s2⟩, ⟨s3, s4⟩⟩
theorem inz_de (L : TL P tI tN tS tTy tEx tEs tSt tSs tPa tPs tDe tDs) (Z : BL P tEx tSt tPa tDe) (hμ : Olds W μ) {n fuel : Nat} (hn : fuel ≤ n) {cs : List Value} {r : DataW H × List MemPlace} (h : DataW.trod enc P W 0 sp held fuel tDe cs = some r) (hz : Lo P tDe r.1) : ∃ x : TDef, Mo.cs μ cs x ∧ SzD n x := by
  cases fuel with
  | zero => cases h
  | succ fuel =>
    obtain ⟨hl, hf⟩ := inz_sf L.de h hz
    obtain ⟨_, h0, -⟩ := hf 0 (tI, 0) rfl
    obtain ⟨_, h1, -⟩ := hf 1 (tS, 1) rfl
    obtain ⟨_, h2, -⟩ := hf 2 (tTy, 2) rfl
    obtain ⟨_, h3, -⟩ := hf 3 (tTy, 4) rfl
    obtain ⟨_, h4, -⟩ := hf 4 (tI, 6) rfl
    obtain ⟨_, h5, z5⟩ := hf 5 (tPs, 7) rfl
    obtain ⟨_, h6, z6⟩ := hf 6 (tSs, 8) rfl
    simp only [L.one, L.ty.size] at h0 h1 h2 h3 h4 h5 h6
    match cs, hl with
    | [a, b, c0, c1, d0, d1, e, f, g], _ =>
      obtain ⟨k, e0⟩ := in_i64 L.i h0
      obtain ⟨nm, e1⟩ := in_str L.s h1
      obtain ⟨t, e2⟩ := in_ty L h2
      obtain ⟨t', e3⟩ := in_ty L h3
      obtain ⟨cp, e4⟩ := in_i64 L.i h4
      obtain ⟨a1, q1, l, e5, k5, s1, -⟩ := inz_sl (α := TParam) (B := 3518437208883) (Rz := fun _ => True) L.ps L.pa.size (by rw [Z.pa]; decide) hμ h5 z5 fun n cs r' _ h _ => (in_pa L h).imp fun _ h => ⟨h, trivial⟩
      obtain ⟨a2, q2, l', e6, k6, s2, s3⟩ := inz_sl (α := TStat) (B := 1099511627776) (Rz := SzS n) L.ss L.st.size (by rw [Z.st]; decide) hμ h6 z6 fun m cs r' hm h z => inz_st L Z hμ n m _ _ (by omega) h z
      simp at e0 e1 e2 e3 e4 e5 e6
      obtain ⟨rfl, rfl⟩ := e2
      obtain ⟨rfl, rfl⟩ := e3
      subst e0; subst e1; subst e4; subst e5; subst e6
      exact ⟨⟨k, nm, t, t', cp, l, l'⟩, ⟨a1, q1, a2, q2, rfl, k5, k6⟩, s1, s2, s3⟩
theorem defs_inz (L : TL P tI tN tS tTy tEx tEs tSt tSs tPa tPs tDe tDs) (Z : BL P tEx tSt tPa tDe) (hμ : Olds W μ) {v : Value} {d : DataW H} {ps : List MemPlace} (h : DataW.Trod enc P W 0 sp held tDs v d ps) (hz : Lo P tDs d) (hv : v.cells.toList = [v]) : ∃ (a : Option Addr) (c : Nat) (l : List TDef) (k : Nat), v = .slice a l.length c ∧ Sl μ a c l ∧ SzP k l := by
  obtain ⟨fuel, h⟩ := h
  obtain ⟨a, c, l, e, k, s1, s2⟩ := inz_sl (α := TDef) (B := 1099511627776) (Rz := SzD fuel) L.ds L.de.size (by rw [Z.de]; decide) hμ h hz fun n cs r' hn h z => inz_de L Z hμ (by omega) h z
  rw [hv] at e
  cases e
  exact ⟨a, c, l, fuel, rfl, k, s1, s2⟩
theorem lo_of {ts us : List TypeId} {ds gs : List (DataW H)} (h : (DataW.weightsEach P (ts ++ us) (ds ++ gs)).all (· ≤ reachBytes) = true) {j : Nat} {t : TypeId} {d : DataW H} (ht : ts[j]? = some t) (hd : ds[j]? = some d) : Lo P t d := by
  intro n hn
  refine of_decide_eq_true (List.all_eq_true.1 h n (DataW.weights_mem_each (j := j) (t := t) (d := d) ?_ ?_ n hn))
  · rw [List.getElem?_append_left (List.getElem?_eq_some_iff.1 ht).1]; exact ht
  · rw [List.getElem?_append_left (List.getElem?_eq_some_iff.1 hd).1]; exact hd
end
end Go.Xt
namespace Go.Proofs.Yteiemedhecjgiaa.graphTells
open Go.Wk Go.Xt Go.Y Go.ChangeShapes Go.WideShapes Go.ChangeAt Go.RowKit
theorem law_c {fu : Nat} {l0 : List TDef} {a0 : Option Addr} {c0 : Nat} (W : World) (hG : Rob (fun _ => True) W Gm) (m0 : Sl (fun w => Gm w ∧ ∀ k, k < W.heap.size → w.heap[k]? = W.heap[k]?) a0 c0 l0) (hok : law_gtells fu l0 = some true) :
    CallsV Try.prog 4 [.slice a0 l0.length c0] W fun v w => v = .bool true ∧ Grow W w := by
  have hS : Sq (fun w => Gm w ∧ ∀ k, k < W.heap.size → w.heap[k]? = W.heap[k]?) W W [] := Sep.start W _ _ (hG.and fun w' _ hb k hk => hb k hk trivial)
  refine (law_gtells_w (fu := fu) (fun _ h => h.1) m0 hok hS).mono ?_
  rintro v w' ⟨μ', rfl, hle, hS'⟩
  have hk := hle _ hS'.a
  exact ⟨rfl, hS'.keeps.os, hS'.keeps.tape, hS'.keeps.output, hS'.keeps.size, fun k hk' _ => hk.2 k hk'⟩
theorem tl : TL Try.prog 3 2 9 55 119 117 121 57 107 56 59 22 := ⟨Try.underlying3, Try.underlying2, Try.underlying9, ⟨⟨_, Try.underlying55, by kernel_rfl, by kernel_rfl⟩⟩, ⟨⟨_, Try.underlying119, by kernel_rfl, by kernel_rfl⟩⟩, Try.underlying117, ⟨⟨_, Try.underlying121, by kernel_rfl, by kernel_rfl⟩⟩, Try.underlying57, ⟨⟨_, Try.underlying107, by kernel_rfl, by kernel_rfl⟩⟩, Try.underlying56, ⟨⟨_, Try.underlying59, by kernel_rfl, by kernel_rfl⟩⟩, Try.underlying22, by kernel_rfl, by kernel_rfl, by kernel_rfl, by kernel_rfl, by kernel_rfl, by kernel_rfl⟩
theorem bl : BL Try.prog 119 121 107 59 := ⟨by kernel_rfl, by kernel_rfl, by kernel_rfl, by kernel_rfl⟩
theorem own : ownKnob Try.prog.godebug = none := by kernel_rfl
theorem laidOut : laidOutB Try.prog = true := by kernel_rfl
set_option maxRecDepth 100000 in
set_option maxHeartbeats 4000000 in
theorem contract (H : Type) (enc : TypeId × Value → H) (W : World) (base : Nat) (args : Array Value) (ds gs : List (DataW H)) (before : List MemPlace)
    (hval : ∀ (j : Nat) t v, Try.f4.params[j]? = some t → args[j]? = some v → Value.okWide Try.prog W .any base t v)
    (hW : DataW.Whole enc Try.prog Try.f4.params.toList Rows.graphTellsSpec.vars false W args.toList ds gs before) (hz : ∀ (j : Nat) t d, Try.f4.params.toList[j]? = some t → ds[j]? = some d → Lo Try.prog t d) (hsh : W.ShapedOpen Try.prog) :
    Calls Try.prog 4 args W fun e W' => ∃ v, e = .returned v ∧ Rows.graphTellsSpec.post enc Try.prog Try.f4 false true false false W args v W' := by
  have hW' := hW
  obtain ⟨p, q, hA0, hV, rfl, hfz, hnd⟩ := hW
  have hA : DataW.TrodAll enc Try.prog W 0 (fun _ => true) true Try.f4.params.toList args.toList ds p := hA0
  rw [Try.params4] at hA hval
  obtain ⟨v0, vs0, d0_, ds0, p0, q0, hargs0, rfl, rfl, h0, r0⟩ := trodAll_cons hA
  obtain ⟨rfl, rfl, rfl⟩ := trodAll_nil r0
  obtain rfl : args = #[v0] := by cases args; simp_all
  obtain ⟨rfl, rfl⟩ := trodVars_none hV
  clear hA0
  simp only [List.append_nil] at hW'
  have hlt := hW'.lt
  have hv0 : v0.cells.toList = [v0] := by obtain ⟨_, _, _, rfl⟩ := okWide_slice Try.underlying22 (hval 0 22 v0 rfl rfl); rfl
  obtain ⟨a0, c0, l0, z0, hl0, m0, hs0⟩ := defs_inz (μ := fun w => Gm w ∧ ∀ k, k < W.heap.size → w.heap[k]? = W.heap[k]?) tl bl (fun w h => h.2) h0 (hz 0 22 d0_ (by rw [Try.params4]; rfl) rfl) hv0
  obtain ⟨m, hm⟩ := cell_of_shapedOpen_int (P := Try.prog) (g := 0) (t := 3) (zero := #[.int .i64 0]) hsh (of_decide_eq_true (by kernel_rfl)) (by kernel_rfl) (by kernel_rfl) (by kernel_rfl) (by kernel_rfl) Try.underlying3
  have hG : Rob (fun _ => True) W Gm := fun w' _ hb => ⟨m, cell_keep hm fun k hk => hb k hk trivial⟩
  have walk := (law_c W hG m0 (law_gtells_ok _ _ hs0)).out
  rw [← hl0] at walk
  refine walk.mono fun e W' he => ?_
  cases e with
  | panicked c => exact he.elim
  | outgrown => exact he.elim
  | returned v =>
    obtain ⟨rfl, hg⟩ := he
    exact ⟨_, rfl, _, _, _, [], _, [], hW', trodAll_cons_mk (shut_bool Try.underlying4 _) trodAll_mk0, (trodAll_cons_mk (Below.trod laidOut (by kernel_rfl) (of_decide_eq_true (by kernel_rfl)) h0 hg.below (fun x hx => hlt x (by simp [hx]))) trodAll_mk0), rfl, hg.below.frame _, fun h => by cases h⟩
theorem plainLaid : (World.laidAll Try.prog default Rows.graphTellsRow.laid).os = default := World.laidAll_os _ _ _
set_option maxRecDepth 100000 in
theorem lifted (os : Os) (started : os.Started) (H : Type) (enc : TypeId × Value → H) (F : Stop.Interp) :
    ReturnsInHanded {} Try.checked os 4 .any ((OpenSpec.ofChange Rows.graphTellsSpec).preRow enc Try.prog Try.f4 Rows.graphTellsRow.domain false Rows.graphTellsRow.laid) (((OpenSpec.ofChange Rows.graphTellsSpec).at F).post enc Try.prog Try.f4 false true false false) := by
  have hx : ∃ places, DataW.whole enc Try.prog ((World.laidAll Try.prog os Rows.graphTellsRow.laid).forCall (fun _ _ => 0) ⟨#[], #[.slice none 0 0], []⟩).memory Try.f4.params.toList Rows.graphTellsSpec.vars false (#[.slice none 0 0] : Array Value).toList 8 = some ([.nil], [], places) := ⟨[], by kernel_rfl⟩
  obtain ⟨places, hx⟩ := hx
  have hok : Input.okWideB Try.prog ((World.laidAll Try.prog os Rows.graphTellsRow.laid).forCall (fun _ _ => 0) ⟨#[], #[.slice none 0 0], []⟩) 4 ⟨#[], #[.slice none 0 0], []⟩ = true := by kernel_rfl
  refine returnsInHanded_of_row (C := Try.checked) (s := OpenSpec.ofChange Rows.graphTellsSpec) own started (by kernel_rfl) Try.func4
    ⟨World.laidAll Try.prog os Rows.graphTellsRow.laid, fun _ _ => 0, ⟨#[], #[.slice none 0 0], []⟩, World.laidAll_os _ _ _, World.shaped_of_ZipB (by kernel_rfl) (by kernel_rfl), (Input.okWide_of_okWideB (base := 0) hok).1, (Input.okWide_of_okWideB hok).2,
      OpenSpec.preRow_of_cond 8 hx (by kernel_rfl) (fun k hk => by cases hk) (by kernel_rfl) (by rw [MakeChecks.laidMetH_plain _ _ _ (by kernel_rfl)]; exact laidMet_laidAll _ (by kernel_rfl) (by kernel_rfl)), by
        simp only [Assume.holds]
        exact ⟨by simp, by simp, fun _ => Modest.zero, by simp, by simp⟩⟩ ?_
  intro W base args ds gs before hval hW _ hk hz hL hsh _
  exact contract H enc W base args ds gs before hval hW (fun j t d ht hd => lo_of hz ht hd) hsh
theorem said : Rows.GraphTellsSaid :=
  OpenClaim.holds_of_cond 4 Try.f4 rfl rfl rfl rfl rfl rfl rfl ⟨rfl, rfl, rfl, rfl, rfl⟩ rfl rfl rfl rfl rfl (by kernel_rfl) Try.func4 (by kernel_rfl)
    (of_decide_eq_true (by kernel_rfl)) (by unfold Func.isWrapper; first | (rw [if_pos (by decide +kernel)]; kernel_rfl) | (rw [if_neg (by decide +kernel)]; exact ⟨rfl, rfl⟩))
    (fun os started H enc _ F => by rw [OpenClaim.pre_eq_preRow]; exact lifted os started H enc F)
end Go.Proofs.Yteiemedhecjgiaa.graphTells
