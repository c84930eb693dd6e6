/- ShelfGcd: the statement holds for every input; as the card says it (the listed variables are laid as the text lays them). -/
import Derived.Test.YtaenlbapejigbaaGreatDoorCXt
import Derived.ChangeSlices
import Derived.ChangeShapes
import Derived.Test.YtaenlbapejigbaaGreatDoorCards
import Derived.Test.YtaenlbapejigbaaGreatDoorTie
import Derived.WalkKit
import Derived.ProofKit
import Derived.OpenShut
import Derived.Deep.DeepHandedRow
import Derived.Lay
import Derived.SizedLaws
import Derived.Shelf.Vars
import Derived.Carry
import Derived.Test.YtaenlbapejigbaaGreatDoorCWl
import Derived.Test.YtaenlbapejigbaaGreatDoorCPl
set_option linter.unusedSimpArgs false
set_option linter.unusedVariables false
set_option linter.unusedSectionVars false
namespace Go.Xt
open Go.Wk Go.RowKit Go.ChangeShapes
section
variable {H : Type} {enc : TypeId × Value → H} {P : Program} {W : World} {d : DataW H} {ps : List MemPlace} {v : Value}
theorem cell_lt {w : World} {b i : Nat} {v : Value} (h : w.cell? ⟨b, i, none⟩ = some v) : b < w.heap.size := by
  refine Decidable.byContradiction fun hn => ?_
  have : w.heap[b]? = none := Array.getElem?_eq_none (by omega)
  simp [World.cell?, this] at h
theorem cell_keep {w w' : World} {b i : Nat} {v : Value} (h : w.cell? ⟨b, i, none⟩ = some v) (hk : ∀ k, k < w.heap.size → w'.heap[k]? = w.heap[k]?) : w'.cell? ⟨b, i, none⟩ = some v := by
  have hl := cell_lt h
  simpa [World.cell?, hk b hl] using h
theorem ints_in {t e : TypeId} {μ : M} (ht : P.underlying t = some (.slice e)) (he : P.underlying e = some (.int .i64)) (hc : P.cellsOf e = 1) (h : DataW.Trod enc P W 0 (fun _ => true) true t v d ps) (hv : v.cells.toList = [v])
    (hμ : ∀ w, μ w → ∀ k, k < W.heap.size → w.heap[k]? = W.heap[k]?) :
    ∃ (a : Option Addr) (c : Nat) (l : List Int), v = .slice a l.length c ∧ Sl μ a c l ∧ ∀ x ∈ l, -9223372036854775808 ≤ x ∧ x ≤ 9223372036854775807 := by
  obtain ⟨fuel, h⟩ := h
  rw [hv] at h
  rcases open_ints ht he hc h with ⟨e, -⟩ | ⟨a, len, cap, zs, e, -, h1, h2, h3, -, h4, h5⟩
  · cases e
    exact ⟨none, 0, [], rfl, Sl.nil, by simp⟩
  · simp only [if_true] at h3
    cases e
    have hlen : (zs.take len).length = len := by rw [List.length_take]; omega
    refine ⟨some a, cap, zs.take len, by rw [hlen], ⟨by omega, h2, ?_⟩, fun x hx => ?_⟩
    · by_cases h0 : len = 0
      · left; subst h0; simp
      · right
        have hsp : a.spot = none := by
          have := h4 0 (by omega)
          cases hs : a.spot with
          | none => rfl
          | some q =>
            have e : (a.add 0).spot = some q := by simp [Addr.add, hs]
            unfold World.cell? at this
            rw [e] at this
            simp at this
            split at this <;> cases this
        obtain ⟨b, o, s⟩ := a
        simp only at hsp
        subst hsp
        refine ⟨b, o, rfl, fun i => [.int .i64 (zs.getD i 0)], fun i x hx => ⟨fun w hw j u hu => ?_, ?_⟩⟩
        · have hi : i < len := by
            have := (List.getElem?_eq_some_iff.1 hx).1
            omega
          have hj : j = 0 := by
            have := (List.getElem?_eq_some_iff.1 hu).1
            simpa using this
          subst hj
          cases hu
          have hcell := h4 i (by omega)
          rw [add_addr] at hcell
          have := cell_keep hcell (hμ w hw)
          show w.cell? ⟨b, o + i * 1 + 0, none⟩ = _
          rw [Nat.mul_one, Nat.add_zero]
          exact this
        · rw [List.getElem?_take] at hx
          split at hx
          · show _ = _
            simp [List.getD_eq_getElem?_getD, hx]
          · cases hx
    · have := h5 x (List.mem_of_mem_take hx)
      simpa [Lit.wf, IntKind.min, IntKind.max, IntKind.signed, IntKind.bits] using this
theorem bools_in {t e : TypeId} {μ : M} (ht : P.underlying t = some (.slice e)) (he : P.underlying e = some .bool) (hc : P.cellsOf e = 1) (h : DataW.Trod enc P W 0 (fun _ => true) true t v d ps) (hv : v.cells.toList = [v])
    (hμ : ∀ w, μ w → ∀ k, k < W.heap.size → w.heap[k]? = W.heap[k]?) :
    ∃ (a : Option Addr) (c : Nat) (l : List Bool), v = .slice a l.length c ∧ Sl μ a c l ∧ True := by
  obtain ⟨fuel, h⟩ := h
  rw [hv] at h
  rcases DataW.trod_slice ht h with ⟨e, -⟩ | ⟨a, len, cap, elems, rest, n, -, e, -, -, h1, h2, h3, h4, -⟩
  · cases e
    exact ⟨none, 0, [], rfl, Sl.nil, trivial⟩
  · cases e
    have each : ∀ i, i < len → ∃ q : Bool, W.cell? (a.add i) = some (.bool q) := by
      intro i hi
      have hb := h4 i hi
      rw [hc, Nat.mul_one] at hb
      have hlt : i < elems.length := by omega
      rw [List.getElem?_eq_getElem hlt, Option.bind_eq_some_iff] at hb
      obtain ⟨cs, hcs, hy⟩ := hb
      obtain ⟨q, rfl, -⟩ := DataW.trod_bool he hy
      exact ⟨q, cell_of_cells?_one hcs⟩
    let f : Nat → Bool := fun i => if hi : i < len then Classical.choose (each i hi) else false
    have hf : ∀ i, i < len → W.cell? (a.add i) = some (.bool (f i)) := fun i hi => by
      simp only [f, dif_pos hi]
      exact Classical.choose_spec (each i hi)
    refine ⟨some a, cap, (List.range len).map f, by simp, ⟨by simpa using h1, h2, ?_⟩, trivial⟩
    by_cases h0 : len = 0
    · left; subst h0; simp
    · right
      have hsp : a.spot = none := by
        have := hf 0 (by omega)
        cases hs : a.spot with
        | none => rfl
        | some q =>
          have e : (a.add 0).spot = some q := by simp [Addr.add, hs]
          unfold World.cell? at this
          rw [e] at this
          simp at this
          split at this <;> cases this
      obtain ⟨b, o, s⟩ := a
      simp only at hsp
      subst hsp
      refine ⟨b, o, rfl, fun i => [.bool (f i)], fun i x hx => ⟨fun w hw j u hu => ?_, ?_⟩⟩
      · have hi : i < len := by
          have := (List.getElem?_eq_some_iff.1 hx).1
          simpa using this
        have hj : j = 0 := by
          have := (List.getElem?_eq_some_iff.1 hu).1
          simpa using this
        subst hj
        cases hu
        have hcell := hf i hi
        rw [add_addr] at hcell
        have := cell_keep hcell (hμ w hw)
        show w.cell? ⟨b, o + i * 1 + 0, none⟩ = _
        rw [Nat.mul_one, Nat.add_zero]
        exact this
      · have hi : i < len := by
          have := (List.getElem?_eq_some_iff.1 hx).1
          simpa using this
        simp [hi] at hx
        show [Value.bool (f i)] = [Value.bool x]
        rw [hx]
end
end Go.Xt
namespace Go.Proofs.YtaenlbapejigbaaGreatDoor.shelfGcd
open Go.Wk Go.Xt Go.Y Go.ChangeShapes Go.WideShapes Go.ChangeAt Go.RowKit
theorem law_c {l0 : List Int} {a0 : Option Addr} {c0 : Nat} (W : World) (hG : Rob (fun _ => True) W Gm) (m0 : Sl (fun w => Gm w ∧ ∀ k, k < W.heap.size → w.heap[k]? = W.heap[k]?) a0 c0 l0) (hok : law_gcd 60001 l0 = some true) :
    CallsV Tryz.prog 4 [.slice a0 l0.length c0] W fun v w => v = .bool true ∧ Grow W w := by
  have hS : Sq (fun w => Gm w ∧ ∀ k, k < W.heap.size → w.heap[k]? = W.heap[k]?) W W [] := Sep.start W _ _ (hG.and fun w' _ hb k hk => hb k hk trivial)
  refine (law_gcd_w (fu := 60001) (fun _ h => h.1) m0 hok hS).mono ?_
  rintro v w' ⟨μ', rfl, hle, hS'⟩
  have hk := hle _ hS'.a
  exact ⟨rfl, hS'.keeps.os, hS'.keeps.tape, hS'.keeps.output, hS'.keeps.size, fun k hk' _ => hk.2 k hk'⟩
theorem own : ownKnob Tryz.prog.godebug = none := by kernel_rfl
theorem laidOut : laidOutB Tryz.prog = true := by kernel_rfl
set_option maxRecDepth 100000 in
set_option maxHeartbeats 4000000 in
theorem contract (H : Type) (enc : TypeId × Value → H) (W : World) (base : Nat) (args : Array Value) (ds gs : List (DataW H)) (before : List MemPlace)
    (hval : ∀ (j : Nat) t v, Tryz.f4.params[j]? = some t → args[j]? = some v → Value.okWide Tryz.prog W .any base t v)
    (hW : DataW.Whole enc Tryz.prog Tryz.f4.params.toList Rows.shelfGcdSpec.vars false W args.toList ds gs before) (hsh : W.ShapedOpen Tryz.prog) :
    Calls Tryz.prog 4 args W fun e W' => ∃ v, e = .returned v ∧ Rows.shelfGcdSpec.post enc Tryz.prog Tryz.f4 false true false false W args v W' := by
  have hW' := hW
  obtain ⟨p, q, hA0, hV, rfl, hfz, hnd⟩ := hW
  have hA : DataW.TrodAll enc Tryz.prog W 0 (fun _ => true) true Tryz.f4.params.toList args.toList ds p := hA0
  rw [Tryz.params4] at hA hval
  obtain ⟨v0, vs0, d0_, ds0, p0, q0, hargs0, rfl, rfl, h0, r0⟩ := trodAll_cons hA
  obtain ⟨rfl, rfl, rfl⟩ := trodAll_nil r0
  obtain rfl : args = #[v0] := by cases args; simp_all
  obtain ⟨rfl, rfl⟩ := trodVars_none hV
  clear hA0
  simp only [List.append_nil] at hW'
  have hlt := hW'.lt
  have hv0 : v0.cells.toList = [v0] := by obtain ⟨_, _, _, rfl⟩ := okWide_slice Tryz.underlying22 (hval 0 22 v0 rfl rfl); rfl
  obtain ⟨a0, c0, l0, hl0, m0, hb0⟩ := ints_in (μ := fun w => Gm w ∧ ∀ k, k < W.heap.size → w.heap[k]? = W.heap[k]?) Tryz.underlying22 Tryz.underlying2 (by kernel_rfl) h0 hv0 (fun w h => h.2)
  obtain ⟨m, hm⟩ := cell_of_shapedOpen_int (P := Tryz.prog) (g := 2) (t := 3) (zero := #[.int .i64 0]) hsh (of_decide_eq_true (by kernel_rfl)) (by kernel_rfl) (by kernel_rfl) (by kernel_rfl) (by kernel_rfl) Tryz.underlying3
  have hG : Rob (fun _ => True) W Gm := fun w' _ hb => ⟨m, cell_keep hm fun k hk => hb k hk trivial⟩
  have walk := (law_c W hG m0 (law_gcd_ok l0)).out
  rw [← hl0] at walk
  refine walk.mono fun e W' he => ?_
  cases e with
  | panicked c => exact he.elim
  | outgrown => exact he.elim
  | returned v =>
    obtain ⟨rfl, hg⟩ := he
    exact ⟨_, rfl, _, _, _, [], _, [], hW', trodAll_cons_mk (shut_bool Tryz.underlying4 _) trodAll_mk0, (trodAll_cons_mk (Below.trod laidOut (by kernel_rfl) (of_decide_eq_true (by kernel_rfl)) h0 hg.below (fun x hx => hlt x (by simp [hx]))) trodAll_mk0), rfl, hg.below.frame _, fun h => by cases h⟩
theorem plainLaid : (World.laidAll Tryz.prog default Rows.shelfGcdRow.laid).os = default := World.laidAll_os _ _ _
set_option maxRecDepth 100000 in
theorem lifted (os : Os) (started : os.Started) (H : Type) (enc : TypeId × Value → H) (F : Stop.Interp) :
    ReturnsInHanded {} Tryz.checked os 4 .any ((OpenSpec.ofChange Rows.shelfGcdSpec).preRow enc Tryz.prog Tryz.f4 Rows.shelfGcdRow.domain false Rows.shelfGcdRow.laid) (((OpenSpec.ofChange Rows.shelfGcdSpec).at F).post enc Tryz.prog Tryz.f4 false true false false) := by
  have hx : ∃ places, DataW.whole enc Tryz.prog ((World.laidAll Tryz.prog os Rows.shelfGcdRow.laid).forCall (fun _ _ => 0) ⟨#[], #[.slice none 0 0], []⟩).memory Tryz.f4.params.toList Rows.shelfGcdSpec.vars false (#[.slice none 0 0] : Array Value).toList 8 = some ([.nil], [], places) := ⟨[], by kernel_rfl⟩
  obtain ⟨places, hx⟩ := hx
  have hok : Input.okWideB Tryz.prog ((World.laidAll Tryz.prog os Rows.shelfGcdRow.laid).forCall (fun _ _ => 0) ⟨#[], #[.slice none 0 0], []⟩) 4 ⟨#[], #[.slice none 0 0], []⟩ = true := by kernel_rfl
  refine returnsInHanded_of_row (C := Tryz.checked) (s := OpenSpec.ofChange Rows.shelfGcdSpec) own started (by kernel_rfl) Tryz.func4
    ⟨World.laidAll Tryz.prog os Rows.shelfGcdRow.laid, fun _ _ => 0, ⟨#[], #[.slice none 0 0], []⟩, World.laidAll_os _ _ _, World.shaped_of_ZipB (by kernel_rfl) (by kernel_rfl), (Input.okWide_of_okWideB (base := 0) hok).1, (Input.okWide_of_okWideB hok).2,
      OpenSpec.preRow_of_cond 8 hx (by kernel_rfl) (fun k hk => by cases hk) (by kernel_rfl) (by rw [MakeChecks.laidMetH_plain _ _ _ (by kernel_rfl)]; exact laidMet_laidAll _ (by kernel_rfl) (by kernel_rfl)), by
        simp only [Assume.holds]
        exact ⟨by simp, by simp, fun _ => Modest.zero, by simp, by simp⟩⟩ ?_
  intro W base args ds gs before hval hW _ hk hz hL hsh _
  exact contract H enc W base args ds gs before hval hW hsh
theorem said : Rows.ShelfGcdSaid :=
  OpenClaim.holds_of_cond 4 Tryz.f4 rfl rfl rfl rfl rfl rfl rfl ⟨rfl, rfl, rfl, rfl, rfl⟩ rfl rfl rfl rfl rfl (by kernel_rfl) Tryz.func4 (by kernel_rfl)
    (of_decide_eq_true (by kernel_rfl)) (by unfold Func.isWrapper; first | (rw [if_pos (by decide +kernel)]; kernel_rfl) | (rw [if_neg (by decide +kernel)]; exact ⟨rfl, rfl⟩))
    (fun os started H enc _ F => by rw [OpenClaim.pre_eq_preRow]; exact lifted os started H enc F)
theorem plain (f : FuncId) (fn : Func) (hf : Tryz.pinned.checked.prog.funcNamed Rows.shelfGcdRow.func = some f) (hfn : Tryz.pinned.checked.prog.funcs[f]? = some fn) :
    true = Tryz.pinned.checked.prog.looks [] ∧ ∀ (j : Nat) t, fn.params[j]? = some t → Tryz.pinned.checked.prog.wantsStandIn t = false := by
  obtain rfl : f = 4 := Option.some.inj ((show Tryz.prog.funcNamed Rows.shelfGcdRow.func = some 4 by kernel_rfl).symm.trans hf) |>.symm
  obtain rfl : fn = Tryz.f4 := (Option.some.inj (Tryz.func4.symm.trans hfn)).symm
  refine ⟨by kernel_rfl, fun j t ht => ?_⟩
  rw [Tryz.params4] at ht
  have hm : t ∈ [22] := by simpa using Array.mem_of_getElem? ht
  simp only [List.mem_cons, List.not_mem_nil, or_false] at hm
  try (rcases hm with rfl | rfl)
  try subst hm
  exact (show Tryz.prog.wantsStandIn 22 = false by kernel_rfl)
theorem card : Rows.ShelfGcdCardSaid :=
  Claim7.holds_tied_plain_at .later [] _ _ _ _ said (fun _ h => by cases h) (by kernel_rfl) (fun _ h => by cases h) shelfGcd_row_tie rfl ⟨rfl, rfl⟩ (by kernel_rfl) rfl plain (by kernel_rfl)
end Go.Proofs.YtaenlbapejigbaaGreatDoor.shelfGcd
