/- ShelfSieve: the statement holds for every input; as the card says it (the listed variables are laid as the text lays them). -/
import Derived.Test.YtibdelbpkfeefaaGreatDoorCXt
import Derived.ChangeSlices
import Derived.ChangeShapes
import Derived.Test.YtibdelbpkfeefaaGreatDoorCards
import Derived.Test.YtibdelbpkfeefaaGreatDoorTie
import Derived.WalkKit
import Derived.ProofKit
import Derived.OpenShut
import Derived.Deep.DeepHandedRow
import Derived.Lay
import Derived.SizedLaws
import Derived.Shelf.Vars
import Derived.Carry
import Derived.Test.YtibdelbpkfeefaaGreatDoorCWl
import Derived.Test.YtibdelbpkfeefaaGreatDoorCPl
set_option linter.unusedSimpArgs false
set_option linter.unusedVariables false
set_option linter.unusedSectionVars false
namespace Go.Xc
open Go.bc Go.RowKit Go.ChangeShapes
section
variable {H : Type}{enc : TypeId × Value → H}{P : Program}{W : World}{d : DataW H}{Vk : List MemPlace}{v : Value}
theorem zG {w : World}{b i : Nat}{v : Value}(h : w.cell? ⟨b, i, none⟩ = some v) : b < w.heap.size := by
  refine Decidable.byContradiction fun a => ?_;have : w.heap[b]? = none := Array.getElem?_eq_none (by omega);simp [World.cell?, this] at h
theorem uw {w w' : World}{b i : Nat}{v : Value}(h : w.cell? ⟨b, i, none⟩ = some v) (a : ∀ k, k < w.heap.size → w'.heap[k]? = w.heap[k]?) : w'.cell? ⟨b, i, none⟩ = some v := by
  have c := zG h;simpa [World.cell?, a b c] using h
theorem KK {t e : TypeId}{μ : M}(r : P.underlying t = some (.slice e)) (he : P.underlying e = some (.int .i64)) (hc : P.cellsOf e = 1) (h : DataW.Trod enc P W 0 (fun _ => true) true t v d Vk) (Nb : v.cells.toList = [v])
    (y : ∀ w, μ w → ∀ k, k < W.heap.size → w.heap[k]? = W.heap[k]?) :
    ∃ (a : Option Addr) (c : Nat) (l : List Int), v = .slice a l.length c ∧ Ca μ a c l ∧ ∀ x ∈ l, -9223372036854775808 ≤ x ∧ x ≤ 9223372036854775807 := by
  obtain ⟨fuel, h⟩ := h;rw [Nb] at h;rcases open_ints r he hc h with ⟨e, -⟩ | ⟨a, len, cap, g, e, -, G, z, A, -, m, B⟩
  · cases e;exact ⟨none, 0, [], rfl, Ca.nil, by simp⟩
  · simp only [if_true] at A;cases e;have hlen : (g.take len).length = len := by rw [List.length_take];omega
    refine ⟨some a, cap, g.take len, by rw [hlen], ⟨by omega, z, ?_⟩, fun x f => ?_⟩
    · by_cases C : len = 0
      · left;subst C;simp
      · right;have n : a.spot = none := by
          have := m 0 (by omega);cases D : a.spot with
          | none => rfl
          | some q =>
            have e : (a.add 0).spot = some q := by simp [Addr.add, D]
            unfold World.cell? at this;rw [e] at this;simp at this;split at this<;>cases this
        obtain ⟨b, o, s⟩ := a;simp only at n;subst n;refine ⟨b, o, rfl, fun i => [.int .i64 (g.getD i 0)], fun i x f => ⟨fun w hw j u hu => ?_, ?_⟩⟩
        · have H : i < len := by
            have := (List.getElem?_eq_some_iff.1 f).1;omega
          have F : j = 0 := by
            have := (List.getElem?_eq_some_iff.1 hu).1;simpa using this
          subst F;cases hu;have p := m i (by omega);rw [Tj] at p;have := uw p (y w hw);show w.cell? ⟨b, o + i * 1 + 0, none⟩ = _;rw [Nat.mul_one, Nat.add_zero];exact this
        · rw [List.getElem?_take] at f;split at f
          · show _ = _;simp [List.getD_eq_getElem?_getD, f]
          · cases f
    · have := B x (List.mem_of_mem_take f);simpa [Lit.wf, IntKind.min, IntKind.max, IntKind.signed, IntKind.bits] using this
theorem KI {t e : TypeId}{μ : M}(A : P.underlying t = some (.slice e)) (he : P.underlying e = some .bool) (hc : P.cellsOf e = 1) (h : DataW.Trod enc P W 0 (fun _ => true) true t v d Vk) (Nb : v.cells.toList = [v])
    (B : ∀ w, μ w → ∀ k, k < W.heap.size → w.heap[k]? = W.heap[k]?) :
    ∃ (a : Option Addr) (c : Nat) (l : List Bool), v = .slice a l.length c ∧ Ca μ a c l ∧ True := by
  obtain ⟨fuel, h⟩ := h;rw [Nb] at h;rcases DataW.trod_slice A h with ⟨e, -⟩ | ⟨a, len, cap, elems, rest, n, -, e, -, -, C, D, S, F, -⟩
  · cases e;exact ⟨none, 0, [], rfl, Ca.nil, trivial⟩
  · cases e;have each : ∀ i, i < len → ∃ q : Bool, W.cell? (a.add i) = some (.bool q):= by
      intro i g;have p := F i g;rw [hc, Nat.mul_one] at p;have G : i < elems.length := by omega
      rw [List.getElem?_eq_getElem G, Option.bind_eq_some_iff] at p;obtain ⟨cs, H, K⟩ := p;obtain ⟨q, rfl, -⟩ := DataW.trod_bool he K;exact ⟨q, cell_of_cells?_one H⟩
    let f : Nat → Bool := fun i => if g : i < len then Classical.choose (each i g) else false
    have r : ∀ i, i < len → W.cell? (a.add i) = some (.bool (f i)):= fun i g => by
      simp only [f, dif_pos g];exact Classical.choose_spec (each i g)
    refine ⟨some a, cap, (List.range len).map f, by simp, ⟨by simpa using C, D, ?_⟩, trivial⟩;by_cases N : len = 0
    · left;subst N;simp
    · right;have y : a.spot = none := by
        have := r 0 (by omega);cases Q : a.spot with
        | none => rfl
        | some q =>
          have e : (a.add 0).spot = some q := by simp [Addr.add, Q]
          unfold World.cell? at this;rw [e] at this;simp at this;split at this<;>cases this
      obtain ⟨b, o, s⟩ := a;simp only at y;subst y;refine ⟨b, o, rfl, fun i => [.bool (f i)], fun i x m => ⟨fun w hw j u hu => ?_, ?_⟩⟩
      · have g : i < len := by
          have := (List.getElem?_eq_some_iff.1 m).1;simpa using this
        have R : j = 0 := by
          have := (List.getElem?_eq_some_iff.1 hu).1;simpa using this
        subst R;cases hu;have z := r i g;rw [Tj] at z;have := uw z (B w hw);show w.cell? ⟨b, o + i * 1 + 0, none⟩ = _;rw [Nat.mul_one, Nat.add_zero];exact this
      · have g : i < len := by
          have := (List.getElem?_eq_some_iff.1 m).1;simpa using this
        simp [g] at m;show [Value.bool (f i)] = [Value.bool x];rw [m]
end
end Go.Xc
namespace Go.Proofs.YtibdelbpkfeefaaGreatDoor.shelfSieve
open Go.bc Go.Xc Go.Y Go.ChangeShapes Go.WideShapes Go.ChangeAt Go.RowKit
theorem vI  (W : World) (d : Ej (fun _ => True) W sb)  (e : dt 60001  = some true) :
    nb Tryz.prog 5 [] W fun v w => v = .bool true ∧ Grow W w := by
  have f : ka (fun w => sb w ∧ ∀ k, k < W.heap.size → w.heap[k]? = W.heap[k]?) W W []:= Sep.start W _ _ (d.and fun w' _ g k c => g k c trivial);refine (oD (fu := 60001) (fun _ h => h.1)  e f).mono ?_;rintro v w' ⟨I, rfl, hle, b⟩;have c := hle _ b.a;exact ⟨rfl, b.keeps.os, b.keeps.tape, b.keeps.output, b.keeps.size, fun k i _ => c.2 k i⟩
theorem own : ownKnob Tryz.prog.godebug = none := by kernel_rfl
theorem laidOut : laidOutB Tryz.prog = true := by kernel_rfl
set_option maxRecDepth 100000 in
set_option maxHeartbeats 4000000 in
theorem qF (H : Type) (enc : TypeId × Value → H) (W : World) (base : Nat) (args : Array Value) (ds gs : List (DataW H)) (before : List MemPlace)
    (l : ∀ (j : Nat) t v, Tryz.f5.params[j]? = some t → args[j]? = some v → Value.okWide Tryz.prog W .any base t v)
    (b : DataW.Whole enc Tryz.prog Tryz.f5.params.toList Rows.shelfSieveSpec.vars false W args.toList ds gs before) (n : W.ShapedOpen Tryz.prog) :
    Calls Tryz.prog 5 args W fun e d => ∃ v, e = .returned v ∧ Rows.shelfSieveSpec.post enc Tryz.prog Tryz.f5 false true false false W args v d := by
  have a := b;obtain ⟨p, q, f, o, rfl, x, y⟩ := b;have i : DataW.TrodAll enc Tryz.prog W 0 (fun _ => true) true Tryz.f5.params.toList args.toList ds p := f;rw [Tryz.params5] at i l;obtain ⟨z, rfl, rfl⟩ := trodAll_nil i;obtain rfl : args = #[]:= by cases args;simp_all
  obtain ⟨rfl, rfl⟩ := trodVars_none o;clear f;simp only [List.append_nil] at a;have A := a.lt;obtain ⟨m, hm⟩ := cell_of_shapedOpen_int (P := Tryz.prog) (g := 2) (t := 3) (zero := #[.int .i64 0]) n (of_decide_eq_true (by kernel_rfl)) (by kernel_rfl) (by kernel_rfl) (by kernel_rfl) (by kernel_rfl) Tryz.underlying3;have r : Ej (fun _ => True) W sb := fun w' _ s => ⟨m, uw hm fun k u => s k u trivial⟩;have walk := (vI W r  (TC )).out;refine walk.mono fun e d he => ?_;cases e with
  | panicked c => exact he.elim
  | outgrown => exact he.elim
  | returned v =>
    obtain ⟨rfl, w⟩ := he;exact ⟨_, rfl, _, _, _, [], _, [], a, trodAll_cons_mk (shut_bool Tryz.underlying4 _) trodAll_mk0, trodAll_mk0, rfl, w.below.frame _, fun h => by cases h⟩
theorem JI : (World.laidAll Tryz.prog default Rows.shelfSieveRow.laid).os = default := World.laidAll_os _ _ _
set_option maxRecDepth 100000 in
theorem lifted (os : Os) (started : os.Started) (H : Type) (enc : TypeId × Value → H) (F : Stop.Interp) :
    ReturnsInHanded {} Tryz.checked os 5 .any ((OpenSpec.ofChange Rows.shelfSieveSpec).preRow enc Tryz.prog Tryz.f5 Rows.shelfSieveRow.domain false Rows.shelfSieveRow.laid) (((OpenSpec.ofChange Rows.shelfSieveSpec).at F).post enc Tryz.prog Tryz.f5 false true false false):= by
  have a : ∃ places, DataW.whole enc Tryz.prog ((World.laidAll Tryz.prog os Rows.shelfSieveRow.laid).forCall (fun _ _ => 0) ⟨#[], #[], []⟩).memory Tryz.f5.params.toList Rows.shelfSieveSpec.vars false (#[] : Array Value).toList 8 = some ([], [], places):= ⟨[], by kernel_rfl⟩;obtain ⟨places, a⟩ := a;have b : Input.okWideB Tryz.prog ((World.laidAll Tryz.prog os Rows.shelfSieveRow.laid).forCall (fun _ _ => 0) ⟨#[], #[], []⟩) 5 ⟨#[], #[], []⟩ = true := by kernel_rfl
  refine returnsInHanded_of_row (C := Tryz.checked) (s := OpenSpec.ofChange Rows.shelfSieveSpec) own started (by kernel_rfl) Tryz.func5
    ⟨World.laidAll Tryz.prog os Rows.shelfSieveRow.laid, fun _ _ => 0, ⟨#[], #[], []⟩, World.laidAll_os _ _ _, World.shaped_of_ZipB (by kernel_rfl) (by kernel_rfl), (Input.okWide_of_okWideB (base := 0) b).1, (Input.okWide_of_okWideB b).2,
      OpenSpec.preRow_of_cond 8 a (by kernel_rfl) (fun k c => by cases c) (by kernel_rfl) (by rw [MakeChecks.laidMetH_plain _ _ _ (by kernel_rfl)];exact laidMet_laidAll _ (by kernel_rfl) (by kernel_rfl)), by
        simp only [Assume.holds];exact ⟨by simp, by simp, fun _ => Modest.zero, by simp, by simp⟩⟩ ?_
  intro W base args ds gs before d e _ c g h f _;exact qF H enc W base args ds gs before d e f
theorem said : Rows.ShelfSieveSaid :=
  OpenClaim.holds_of_cond 5 Tryz.f5 rfl rfl rfl rfl rfl rfl rfl ⟨rfl, rfl, rfl, rfl, rfl⟩ rfl rfl rfl rfl rfl (by kernel_rfl) Tryz.func5 (by kernel_rfl)
    (of_decide_eq_true (by kernel_rfl)) (by unfold Func.isWrapper;first | (rw [if_pos (by decide +kernel)];kernel_rfl) | (rw [if_neg (by decide +kernel)];exact ⟨rfl, rfl⟩))
    (fun os started H enc _ F => by rw [OpenClaim.pre_eq_preRow];exact lifted os started H enc F)
theorem plain (f : FuncId) (fn : Func) (b : Tryz.pinned.checked.prog.funcNamed Rows.shelfSieveRow.func = some f) (c : Tryz.pinned.checked.prog.funcs[f]? = some fn) :
    true = Tryz.pinned.checked.prog.looks [] ∧ ∀ (j : Nat) t, fn.params[j]? = some t → Tryz.pinned.checked.prog.wantsStandIn t = false := by
  obtain rfl : f = 5 := Option.some.inj ((show Tryz.prog.funcNamed Rows.shelfSieveRow.func = some 5 by kernel_rfl).symm.trans b) |>.symm;obtain rfl : fn = Tryz.f5 := (Option.some.inj (Tryz.func5.symm.trans c)).symm;refine ⟨by kernel_rfl, fun j t a => ?_⟩;rw [Tryz.params5] at a;simp at a
theorem card : Rows.ShelfSieveCardSaid :=
  Claim7.holds_tied_plain_at .later [] _ _ _ _ said (fun _ h => by cases h) (by kernel_rfl) (fun _ h => by cases h) shelfSieve_row_tie rfl ⟨rfl, rfl⟩ (by kernel_rfl) rfl plain (by kernel_rfl)
end Go.Proofs.YtibdelbpkfeefaaGreatDoor.shelfSieve
