/- SynJoined: the statement holds for every input; as the card says it (the listed variables are laid as the text lays them). -/
import Derived.Test.YtbdiobhgejmgoaaDoorCXt
import Derived.ChangeSlices
import Derived.ChangeShapes
import Derived.Test.YtbdiobhgejmgoaaDoorCards
import Derived.Test.YtbdiobhgejmgoaaDoorTie
import Derived.WalkKit
import Derived.ProofKit
import Derived.OpenShut
import Derived.Deep.DeepHandedRow
import Derived.Lay
import Derived.SizedLaws
import Derived.Shelf.Vars
import Derived.Carry
import Derived.Test.YtbdiobhgejmgoaaDoorCWl
import Derived.Test.YtbdiobhgejmgoaaDoorCPl
set_option linter.unusedSimpArgs false
set_option linter.unusedVariables false
set_option linter.unusedSectionVars false
namespace Go.Xt
open Go.Wk Go.RowKit Go.ChangeShapes
section
variable {H : Type} {enc : TypeId × Value → H} {P : Program} {W : World} {d : DataW H} {ps : List MemPlace} {v : Value}
theorem cell_lt {w : World} {b i : Nat} {v : Value} (h : w.cell? ⟨b, i, none⟩ = some v) : b < w.heap.size := by
  refine Decidable.byContradiction fun hn => ?_
  have : w.heap[b]? = none := Array.getElem?_eq_none (by omega)
  simp [World.cell?, this] at h
theorem cell_keep {w w' : World} {b i : Nat} {v : Value} (h : w.cell? ⟨b, i, none⟩ = some v) (hk : ∀ k, k < w.heap.size → w'.heap[k]? = w.heap[k]?) : w'.cell? ⟨b, i, none⟩ = some v := by
  have hl := cell_lt h
  simpa [World.cell?, hk b hl] using h
theorem ints_in {t e : TypeId} {μ : M} (ht : P.underlying t = some (.slice e)) (he : P.underlying e = some (.int .i64)) (hc : P.cellsOf e = 1) (h : DataW.Trod enc P W 0 (fun _ => true) true t v d ps) (hv : v.cells.toList = [v])
    (hμ : ∀ w, μ w → ∀ k, k < W.heap.size → w.heap[k]? = W.heap[k]?) :
    ∃ (a : Option Addr) (c : Nat) (l : List Int), v = .slice a l.length c ∧ Sl μ a c l ∧ ∀ x ∈ l, -9223372036854775808 ≤ x ∧ x ≤ 9223372036854775807 := by
  obtain ⟨fuel, h⟩ := h
  rw [hv] at h
  rcases open_ints ht he hc h with ⟨e, -⟩ | ⟨a, len, cap, zs, e, -, h1, h2, h3, -, h4, h5⟩
  · cases e
    exact ⟨none, 0, [], rfl, Sl.nil, by simp⟩
  · simp only [if_true] at h3
    cases e
    have hlen : (zs.take len).length = len := by rw [List.length_take]; omega
    refine ⟨some a, cap, zs.take len, by rw [hlen], ⟨by omega, h2, ?_⟩, fun x hx => ?_⟩
    · by_cases h0 : len = 0
      · left; subst h0; simp
      · right
        have hsp : a.spot = none := by
          have := h4 0 (by omega)
          cases hs : a.spot with
          | none => rfl
          | some q =>
            have e : (a.add 0).spot = some q := by simp [Addr.add, hs]
            unfold World.cell? at this
            rw [e] at this
            simp at this
            split at this <;> cases this
        obtain ⟨b, o, s⟩ := a
        simp only at hsp
        subst hsp
        refine ⟨b, o, rfl, fun i => [.int .i64 (zs.getD i 0)], fun i x hx => ⟨fun w hw j u hu => ?_, ?_⟩⟩
        · have hi : i < len := by
            have := (List.getElem?_eq_some_iff.1 hx).1
            omega
          have hj : j = 0 := by
            have := (List.getElem?_eq_some_iff.1 hu).1
            simpa using this
          subst hj
          cases hu
          have hcell := h4 i (by omega)
          rw [add_addr] at hcell
          have := cell_keep hcell (hμ w hw)
          show w.cell? ⟨b, o + i * 1 + 0, none⟩ = _
          rw [Nat.mul_one, Nat.add_zero]
          exact this
        · rw [List.getElem?_take] at hx
          split at hx
          · show _ = _
            simp [List.getD_eq_getElem?_getD, hx]
          · cases hx
    · have := h5 x (List.mem_of_mem_take hx)
      simpa [Lit.wf, IntKind.min, IntKind.max, IntKind.signed, IntKind.bits] using this
theorem bools_in {t e : TypeId} {μ : M} (ht : P.underlying t = some (.slice e)) (he : P.underlying e = some .bool) (hc : P.cellsOf e = 1) (h : DataW.Trod enc P W 0 (fun _ => true) true t v d ps) (hv : v.cells.toList = [v])
    (hμ : ∀ w, μ w → ∀ k, k < W.heap.size → w.heap[k]? = W.heap[k]?) :
    ∃ (a : Option Addr) (c : Nat) (l : List Bool), v = .slice a l.length c ∧ Sl μ a c l ∧ True := by
  obtain ⟨fuel, h⟩ := h
  rw [hv] at h
  rcases DataW.trod_slice ht h with ⟨e, -⟩ | ⟨a, len, cap, elems, rest, n, -, e, -, -, h1, h2, h3, h4, -⟩
  · cases e
    exact ⟨none, 0, [], rfl, Sl.nil, trivial⟩
  · cases e
    have each : ∀ i, i < len → ∃ q : Bool, W.cell? (a.add i) = some (.bool q) := by
      intro i hi
      have hb := h4 i hi
      rw [hc, Nat.mul_one] at hb
      have hlt : i < elems.length := by omega
      rw [List.getElem?_eq_getElem hlt, Option.bind_eq_some_iff] at hb
      obtain ⟨cs, hcs, hy⟩ := hb
      obtain ⟨q, rfl, -⟩ := DataW.trod_bool he hy
      exact ⟨q, cell_of_cells?_one hcs⟩
    let f : Nat → Bool := fun i => if hi : i < len then Classical.choose (each i hi) else false
    have hf : ∀ i, i < len → W.cell? (a.add i) = some (.bool (f i)) := fun i hi => by
      simp only [f, dif_pos hi]
      exact Classical.choose_spec (each i hi)
    refine ⟨some a, cap, (List.range len).map f, by simp, ⟨by simpa using h1, h2, ?_⟩, trivial⟩
    by_cases h0 : len = 0
    · left; subst h0; simp
    · right
      have hsp : a.spot = none := by
        have := hf 0 (by omega)
        cases hs : a.spot with
        | none => rfl
        | some q =>
          have e : (a.add 0).spot = some q := by simp [Addr.add, hs]
          unfold World.cell? at this
          rw [e] at this
          simp at this
          split at this <;> cases this
      obtain ⟨b, o, s⟩ := a
      simp only at hsp
      subst hsp
      refine ⟨b, o, rfl, fun i => [.bool (f i)], fun i x hx => ⟨fun w hw j u hu => ?_, ?_⟩⟩
      · have hi : i < len := by
          have := (List.getElem?_eq_some_iff.1 hx).1
          simpa using this
        have hj : j = 0 := by
          have := (List.getElem?_eq_some_iff.1 hu).1
          simpa using this
        subst hj
        cases hu
        have hcell := hf i hi
        rw [add_addr] at hcell
        have := cell_keep hcell (hμ w hw)
        show w.cell? ⟨b, o + i * 1 + 0, none⟩ = _
        rw [Nat.mul_one, Nat.add_zero]
        exact this
      · have hi : i < len := by
          have := (List.getElem?_eq_some_iff.1 hx).1
          simpa using this
        simp [hi] at hx
        show [Value.bool (f i)] = [Value.bool x]
        rw [hx]
end
end Go.Xt
namespace Go.Proofs.YtbdiobhgejmgoaaDoor.synJoined
open Go.Wk Go.Xt Go.Y Go.ChangeShapes Go.WideShapes Go.ChangeAt Go.RowKit
theorem law_c {l0 : List UInt8} {l1 : List UInt8} (W : World) (hG : Rob (fun _ => True) W Gm)   (hok : law_synj 60001 l0 l1 = some true) :
    CallsV Tryd.prog 3 [S l0, S l1] W fun v w => v = .bool true ∧ Grow W w := by
  have hS : Sq (fun w => Gm w ∧ ∀ k, k < W.heap.size → w.heap[k]? = W.heap[k]?) W W [] := Sep.start W _ _ (hG.and fun w' _ hb k hk => hb k hk trivial)
  refine (law_synj_w (fu := 60001) (fun _ h => h.1)  hok hS).mono ?_
  rintro v w' ⟨μ', rfl, hle, hS'⟩
  have hk := hle _ hS'.a
  exact ⟨rfl, hS'.keeps.os, hS'.keeps.tape, hS'.keeps.output, hS'.keeps.size, fun k hk' _ => hk.2 k hk'⟩
theorem own : ownKnob Tryd.prog.godebug = none := by kernel_rfl
theorem laidOut : laidOutB Tryd.prog = true := by kernel_rfl
set_option maxRecDepth 100000 in
set_option maxHeartbeats 4000000 in
theorem contract (H : Type) (enc : TypeId × Value → H) (W : World) (base : Nat) (args : Array Value) (ds gs : List (DataW H)) (before : List MemPlace)
    (hval : ∀ (j : Nat) t v, Tryd.f3.params[j]? = some t → args[j]? = some v → Value.okWide Tryd.prog W .any base t v)
    (hW : DataW.Whole enc Tryd.prog Tryd.f3.params.toList Rows.synJoinedSpec.vars false W args.toList ds gs before) (hz : (DataW.weightsEach Tryd.prog (Tryd.f3.params.toList ++ (OpenSpec.ofChange Rows.synJoinedSpec).bare.plain.varTypes Tryd.prog) (ds ++ gs)).all (· ≤ reachBytes) = true) (hsh : W.ShapedOpen Tryd.prog) :
    Calls Tryd.prog 3 args W fun e W' => ∃ v, e = .returned v ∧ Rows.synJoinedSpec.post enc Tryd.prog Tryd.f3 false true false false W args v W' := by
  have hW' := hW
  obtain ⟨p, q, hA0, hV, rfl, hfz, hnd⟩ := hW
  have hA : DataW.TrodAll enc Tryd.prog W 0 (fun _ => true) true Tryd.f3.params.toList args.toList ds p := hA0
  rw [Tryd.params3] at hA hval hz
  obtain ⟨v0, vs0, d0_, ds0, p0, q0, hargs0, rfl, rfl, h0, r0⟩ := trodAll_cons hA
  obtain ⟨v1, vs1, d1_, ds1, p1, q1, hargs1, rfl, rfl, h1, r1⟩ := trodAll_cons r0
  obtain ⟨rfl, rfl, rfl⟩ := trodAll_nil r1
  try (obtain rfl := hargs1)
  obtain rfl : args = #[v0, v1] := by cases args; simp_all
  obtain ⟨rfl, rfl⟩ := trodVars_none hV
  clear hA0
  simp only [List.append_nil] at hW'
  have hlt := hW'.lt
  obtain ⟨⟨⟨l0⟩⟩, rfl, rfl, rfl, hs0⟩ := Go.ChangeMaps.open_string Tryd.underlying9 (hval 0 9 v0 rfl rfl) h0
  have hl0 : l0.length ≤ 140737488355328 := Nat.le_trans (Go.sized_string hz (j := 0) (t := 9) (bytes := l0) rfl rfl) (by decide : reachBytes ≤ 140737488355328)
  obtain ⟨⟨⟨l1⟩⟩, rfl, rfl, rfl, hs1⟩ := Go.ChangeMaps.open_string Tryd.underlying9 (hval 1 9 v1 rfl rfl) h1
  have hl1 : l1.length ≤ 140737488355328 := Nat.le_trans (Go.sized_string hz (j := 1) (t := 9) (bytes := l1) rfl rfl) (by decide : reachBytes ≤ 140737488355328)
  obtain ⟨m, hm⟩ := cell_of_shapedOpen_int (P := Tryd.prog) (g := 2) (t := 3) (zero := #[.int .i64 0]) hsh (of_decide_eq_true (by kernel_rfl)) (by kernel_rfl) (by kernel_rfl) (by kernel_rfl) (by kernel_rfl) Tryd.underlying3
  have hG : Rob (fun _ => True) W Gm := fun w' _ hb => ⟨m, cell_keep hm fun k hk => hb k hk trivial⟩
  have walk := (law_c W hG  (law_synj_ok (by omega : l0.length + l1.length + 1 ≤ 9223372036854775807))).out
  refine walk.mono fun e W' he => ?_
  cases e with
  | panicked c => exact he.elim
  | outgrown => exact he.elim
  | returned v =>
    obtain ⟨rfl, hg⟩ := he
    exact ⟨_, rfl, _, _, _, [], _, [], hW', trodAll_cons_mk (shut_bool Tryd.underlying4 _) trodAll_mk0, (trodAll_cons_mk (Go.ChangeMaps.shut_string Tryd.underlying9 hs0) (trodAll_cons_mk (Go.ChangeMaps.shut_string Tryd.underlying9 hs1) trodAll_mk0)), rfl, hg.below.frame _, fun h => by cases h⟩
theorem plainLaid : (World.laidAll Tryd.prog default Rows.synJoinedRow.laid).os = default := World.laidAll_os _ _ _
set_option maxRecDepth 100000 in
theorem lifted (os : Os) (started : os.Started) (H : Type) (enc : TypeId × Value → H) (F : Stop.Interp) :
    ReturnsInHanded {} Tryd.checked os 3 .any ((OpenSpec.ofChange Rows.synJoinedSpec).preRow enc Tryd.prog Tryd.f3 Rows.synJoinedRow.domain false Rows.synJoinedRow.laid) (((OpenSpec.ofChange Rows.synJoinedSpec).at F).post enc Tryd.prog Tryd.f3 false true false false) := by
  have hx : ∃ places, DataW.whole enc Tryd.prog ((World.laidAll Tryd.prog os Rows.synJoinedRow.laid).forCall (fun _ _ => 0) ⟨#[], #[.string ⟨#[]⟩, .string ⟨#[]⟩], []⟩).memory Tryd.f3.params.toList Rows.synJoinedSpec.vars false (#[.string ⟨#[]⟩, .string ⟨#[]⟩] : Array Value).toList 8 = some ([.lit (.string []), .lit (.string [])], [], places) := ⟨[], by kernel_rfl⟩
  obtain ⟨places, hx⟩ := hx
  have hok : Input.okWideB Tryd.prog ((World.laidAll Tryd.prog os Rows.synJoinedRow.laid).forCall (fun _ _ => 0) ⟨#[], #[.string ⟨#[]⟩, .string ⟨#[]⟩], []⟩) 3 ⟨#[], #[.string ⟨#[]⟩, .string ⟨#[]⟩], []⟩ = true := by kernel_rfl
  refine returnsInHanded_of_row (C := Tryd.checked) (s := OpenSpec.ofChange Rows.synJoinedSpec) own started (by kernel_rfl) Tryd.func3
    ⟨World.laidAll Tryd.prog os Rows.synJoinedRow.laid, fun _ _ => 0, ⟨#[], #[.string ⟨#[]⟩, .string ⟨#[]⟩], []⟩, World.laidAll_os _ _ _, World.shaped_of_ZipB (by kernel_rfl) (by kernel_rfl), (Input.okWide_of_okWideB (base := 0) hok).1, (Input.okWide_of_okWideB hok).2,
      OpenSpec.preRow_of_cond 8 hx (by kernel_rfl) (fun k hk => by cases hk) (by kernel_rfl) (by rw [MakeChecks.laidMetH_plain _ _ _ (by kernel_rfl)]; exact laidMet_laidAll _ (by kernel_rfl) (by kernel_rfl)), by
        simp only [Assume.holds]
        exact ⟨by simp, by simp, fun _ => Modest.zero, by simp, by simp⟩⟩ ?_
  intro W base args ds gs before hval hW _ hk hz hL hsh _
  exact contract H enc W base args ds gs before hval hW hz hsh
theorem said : Rows.SynJoinedSaid :=
  OpenClaim.holds_of_cond 3 Tryd.f3 rfl rfl rfl rfl rfl rfl rfl ⟨rfl, rfl, rfl, rfl, rfl⟩ rfl rfl rfl rfl rfl (by kernel_rfl) Tryd.func3 (by kernel_rfl)
    (of_decide_eq_true (by kernel_rfl)) (by unfold Func.isWrapper; first | (rw [if_pos (by decide +kernel)]; kernel_rfl) | (rw [if_neg (by decide +kernel)]; exact ⟨rfl, rfl⟩))
    (fun os started H enc _ F => by rw [OpenClaim.pre_eq_preRow]; exact lifted os started H enc F)
theorem plain (f : FuncId) (fn : Func) (hf : Tryd.pinned.checked.prog.funcNamed Rows.synJoinedRow.func = some f) (hfn : Tryd.pinned.checked.prog.funcs[f]? = some fn) :
    true = Tryd.pinned.checked.prog.looks [] ∧ ∀ (j : Nat) t, fn.params[j]? = some t → Tryd.pinned.checked.prog.wantsStandIn t = false := by
  obtain rfl : f = 3 := Option.some.inj ((show Tryd.prog.funcNamed Rows.synJoinedRow.func = some 3 by kernel_rfl).symm.trans hf) |>.symm
  obtain rfl : fn = Tryd.f3 := (Option.some.inj (Tryd.func3.symm.trans hfn)).symm
  refine ⟨by kernel_rfl, fun j t ht => ?_⟩
  rw [Tryd.params3] at ht
  have hm : t ∈ [9] := by
    first
      | simpa using Array.mem_of_getElem? ht
      | (have := Array.mem_of_getElem? ht; simp at this ⊢; exact this.symm)
  simp only [List.mem_cons, List.not_mem_nil, or_false] at hm
  try (rcases hm with rfl | rfl)
  try subst hm
  exact (show Tryd.prog.wantsStandIn 9 = false by kernel_rfl)
theorem card : Rows.SynJoinedCardSaid :=
  Claim7.holds_tied_plain_at .later [] _ _ _ _ said (fun _ h => by cases h) (by kernel_rfl) (fun _ h => by cases h) synJoined_row_tie rfl ⟨rfl, rfl⟩ (by kernel_rfl) rfl plain (by kernel_rfl)
end Go.Proofs.YtbdiobhgejmgoaaDoor.synJoined
