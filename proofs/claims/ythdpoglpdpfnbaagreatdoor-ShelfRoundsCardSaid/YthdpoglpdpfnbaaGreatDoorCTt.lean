/- ShelfRounds: the statement holds for every input; as the card says it (the listed variables are laid as the text lays them). -/
import Derived.Test.YthdpoglpdpfnbaaGreatDoorCXt
import Derived.ChangeSlices
import Derived.ChangeShapes
import Derived.Test.YthdpoglpdpfnbaaGreatDoorCards
import Derived.Test.YthdpoglpdpfnbaaGreatDoorTie
import Derived.WalkKit
import Derived.ProofKit
import Derived.OpenShut
import Derived.Deep.DeepHandedRow
import Derived.Lay
import Derived.SizedLaws
import Derived.Shelf.Vars
import Derived.Carry
import Derived.Test.YthdpoglpdpfnbaaGreatDoorCWl
import Derived.Test.YthdpoglpdpfnbaaGreatDoorCPl
set_option linter.unusedSimpArgs false
set_option linter.unusedVariables false
set_option linter.unusedSectionVars false
namespace Go.jd
open Go.vc Go.RowKit Go.ChangeShapes
section
variable {H : Type}{enc : TypeId × Value → H}{P : Program}{W : World}{d : DataW H}{al : List MemPlace}{v : Value}
theorem OG {w : World}{b i : Nat}{v : Value}(h : w.cell? ⟨b, i, none⟩ = some v) : b < w.heap.size := by
  refine Decidable.byContradiction fun a => ?_;have : w.heap[b]? = none := Array.getElem?_eq_none (by omega);simp [World.cell?, this] at h
theorem lx {w w' : World}{b i : Nat}{v : Value}(h : w.cell? ⟨b, i, none⟩ = some v) (a : ∀ k, k < w.heap.size → w'.heap[k]? = w.heap[k]?) : w'.cell? ⟨b, i, none⟩ = some v := by
  have c := OG h;simpa [World.cell?, a b c] using h
theorem PG {t e : TypeId}{μ : M}(r : P.underlying t = some (.slice e)) (he : P.underlying e = some (.int .i64)) (hc : P.cellsOf e = 1) (h : DataW.Trod enc P W 0 (fun _ => true) true t v d al) (y : v.cells.toList = [v])
    (z : ∀ w, μ w → ∀ k, k < W.heap.size → w.heap[k]? = W.heap[k]?) :
    ∃ (a : Option Addr) (c : Nat) (l : List Int), v = .slice a l.length c ∧ wa μ a c l ∧ ∀ x ∈ l, -9223372036854775808 ≤ x ∧ x ≤ 9223372036854775807 := by
  obtain ⟨fuel, h⟩ := h;rw [y] at h;rcases open_ints r he hc h with ⟨e, -⟩ | ⟨a, len, cap, g, e, -, G, A, B, -, m, C⟩
  · cases e;exact ⟨none, 0, [], rfl, wa.nil, by simp⟩
  · simp only [if_true] at B;cases e;have hlen : (g.take len).length = len := by rw [List.length_take];omega
    refine ⟨some a, cap, g.take len, by rw [hlen], ⟨by omega, A, ?_⟩, fun x f => ?_⟩
    · by_cases D : len = 0
      · left;subst D;simp
      · right;have n : a.spot = none := by
          have := m 0 (by omega);cases E : a.spot with
          | none => rfl
          | some q =>
            have e : (a.add 0).spot = some q := by simp [Addr.add, E]
            unfold World.cell? at this;rw [e] at this;simp at this;split at this<;>cases this
        obtain ⟨b, o, s⟩ := a;simp only at n;subst n;refine ⟨b, o, rfl, fun i => [.int .i64 (g.getD i 0)], fun i x f => ⟨fun w hw j u hu => ?_, ?_⟩⟩
        · have gb : i < len := by
            have := (List.getElem?_eq_some_iff.1 f).1;omega
          have F : j = 0 := by
            have := (List.getElem?_eq_some_iff.1 hu).1;simpa using this
          subst F;cases hu;have p := m i (by omega);rw [ek] at p;have := lx p (z w hw);show w.cell? ⟨b, o + i * 1 + 0, none⟩ = _;rw [Nat.mul_one, Nat.add_zero];exact this
        · rw [List.getElem?_take] at f;split at f
          · show _ = _;simp [List.getD_eq_getElem?_getD, f]
          · cases f
    · have := C x (List.mem_of_mem_take f);simpa [Lit.wf, IntKind.min, IntKind.max, IntKind.signed, IntKind.bits] using this
theorem uJ {t e : TypeId}{μ : M}(z : P.underlying t = some (.slice e)) (he : P.underlying e = some .bool) (hc : P.cellsOf e = 1) (h : DataW.Trod enc P W 0 (fun _ => true) true t v d al) (A : v.cells.toList = [v])
    (B : ∀ w, μ w → ∀ k, k < W.heap.size → w.heap[k]? = W.heap[k]?) :
    ∃ (a : Option Addr) (c : Nat) (l : List Bool), v = .slice a l.length c ∧ wa μ a c l ∧ True := by
  obtain ⟨fuel, h⟩ := h;rw [A] at h;rcases DataW.trod_slice z h with ⟨e, -⟩ | ⟨a, len, cap, elems, rest, n, -, e, -, -, C, D, Q, E, -⟩
  · cases e;exact ⟨none, 0, [], rfl, wa.nil, trivial⟩
  · cases e;have each : ∀ i, i < len → ∃ q : Bool, W.cell? (a.add i) = some (.bool q):= by
      intro i gb;have m := E i gb;rw [hc, Nat.mul_one] at m;have F : i < elems.length := by omega
      rw [List.getElem?_eq_getElem F, Option.bind_eq_some_iff] at m;obtain ⟨cs, G, H⟩ := m;obtain ⟨q, rfl, -⟩ := DataW.trod_bool he H;exact ⟨q, cell_of_cells?_one G⟩
    let f : Nat → Bool := fun i => if gb : i < len then Classical.choose (each i gb) else false
    have p : ∀ i, i < len → W.cell? (a.add i) = some (.bool (f i)):= fun i gb => by
      simp only [f, dif_pos gb];exact Classical.choose_spec (each i gb)
    refine ⟨some a, cap, (List.range len).map f, by simp, ⟨by simpa using C, D, ?_⟩, trivial⟩;by_cases K : len = 0
    · left;subst K;simp
    · right;have r : a.spot = none := by
        have := p 0 (by omega);cases N : a.spot with
        | none => rfl
        | some q =>
          have e : (a.add 0).spot = some q := by simp [Addr.add, N]
          unfold World.cell? at this;rw [e] at this;simp at this;split at this<;>cases this
      obtain ⟨b, o, s⟩ := a;simp only at r;subst r;refine ⟨b, o, rfl, fun i => [.bool (f i)], fun i x g => ⟨fun w hw j u hu => ?_, ?_⟩⟩
      · have gb : i < len := by
          have := (List.getElem?_eq_some_iff.1 g).1;simpa using this
        have O : j = 0 := by
          have := (List.getElem?_eq_some_iff.1 hu).1;simpa using this
        subst O;cases hu;have y := p i gb;rw [ek] at y;have := lx y (B w hw);show w.cell? ⟨b, o + i * 1 + 0, none⟩ = _;rw [Nat.mul_one, Nat.add_zero];exact this
      · have gb : i < len := by
          have := (List.getElem?_eq_some_iff.1 g).1;simpa using this
        simp [gb] at g;show [Value.bool (f i)] = [Value.bool x];rw [g]
end
end Go.jd
namespace Go.Proofs.YthdpoglpdpfnbaaGreatDoor.shelfRounds
open Go.vc Go.jd Go.Y Go.ChangeShapes Go.WideShapes Go.ChangeAt Go.RowKit
theorem TI {c : List Int}{a0 : Option Addr}{c0 : Nat}(W : World) (e : Pj (fun _ => True) W hb) (m0 : wa (fun w => hb w ∧ ∀ k, k < W.heap.size → w.heap[k]? = W.heap[k]?) a0 c0 c) (f : Zq 60001 c = some true) :
    Bb Tryz.prog 6 [.slice a0 c.length c0] W fun v w => v = .bool true ∧ Grow W w := by
  have g : la (fun w => hb w ∧ ∀ k, k < W.heap.size → w.heap[k]? = W.heap[k]?) W W []:= Sep.start W _ _ (e.and fun w' _ i k d => i k d trivial);refine (iD (fu := 60001) (fun _ h => h.1) m0 f g).mono ?_;rintro v w' ⟨J, rfl, hle, b⟩;have d := hle _ b.a;exact ⟨rfl, b.keeps.os, b.keeps.tape, b.keeps.output, b.keeps.size, fun k j _ => d.2 k j⟩
theorem own : ownKnob Tryz.prog.godebug = none := by kernel_rfl
theorem laidOut : laidOutB Tryz.prog = true := by kernel_rfl
set_option maxRecDepth 100000 in
set_option maxHeartbeats 4000000 in
theorem KF (H : Type) (enc : TypeId × Value → H) (W : World) (base : Nat) (args : Array Value) (ds gs : List (DataW H)) (before : List MemPlace)
    (b : ∀ (j : Nat) t v, Tryz.f6.params[j]? = some t → args[j]? = some v → Value.okWide Tryz.prog W .any base t v)
    (d : DataW.Whole enc Tryz.prog Tryz.f6.params.toList Rows.shelfRoundsSpec.vars false W args.toList ds gs before) (r : W.ShapedOpen Tryz.prog) :
    Calls Tryz.prog 6 args W fun e f => ∃ v, e = .returned v ∧ Rows.shelfRoundsSpec.post enc Tryz.prog Tryz.f6 false true false false W args v f := by
  have a := d;obtain ⟨p, q, i, s, rfl, G, K⟩ := d;have l : DataW.TrodAll enc Tryz.prog W 0 (fun _ => true) true Tryz.f6.params.toList args.toList ds p := i;rw [Tryz.params6] at l b;obtain ⟨v0, M, N, O, Aa, Q, R, rfl, rfl, n, u⟩ := trodAll_cons l;obtain ⟨rfl, rfl, rfl⟩ := trodAll_nil u;obtain rfl : args = #[v0]:= by cases args;simp_all
  obtain ⟨rfl, rfl⟩ := trodVars_none s;clear i;simp only [List.append_nil] at a;have y := a.lt;have z : v0.cells.toList = [v0]:= by obtain ⟨_, _, _, rfl⟩ := okWide_slice Tryz.underlying22 (b 0 22 v0 rfl rfl);rfl
  obtain ⟨a0, c0, A, B, m0, S⟩ := PG (μ := fun w => hb w ∧ ∀ k, k < W.heap.size → w.heap[k]? = W.heap[k]?) Tryz.underlying22 Tryz.underlying2 (by kernel_rfl) n z (fun w h => h.2);obtain ⟨m, hm⟩ := cell_of_shapedOpen_int (P := Tryz.prog) (g := 2) (t := 3) (zero := #[.int .i64 0]) r (of_decide_eq_true (by kernel_rfl)) (by kernel_rfl) (by kernel_rfl) (by kernel_rfl) (by kernel_rfl) Tryz.underlying3;have C : Pj (fun _ => True) W hb := fun w' _ D => ⟨m, lx hm fun k E => D k E trivial⟩;have walk := (TI W C m0 (UC A)).out;rw [← B] at walk;refine walk.mono fun e f he => ?_;cases e with
  | panicked c => exact he.elim
  | outgrown => exact he.elim
  | returned v =>
    obtain ⟨rfl, o⟩ := he;exact ⟨_, rfl, _, _, _, [], _, [], a, trodAll_cons_mk (shut_bool Tryz.underlying4 _) trodAll_mk0, (trodAll_cons_mk (Below.trod laidOut (by kernel_rfl) (of_decide_eq_true (by kernel_rfl)) n o.below (fun x F => y x (by simp [F]))) trodAll_mk0), rfl, o.below.frame _, fun h => by cases h⟩
theorem tJ : (World.laidAll Tryz.prog default Rows.shelfRoundsRow.laid).os = default := World.laidAll_os _ _ _
set_option maxRecDepth 100000 in
theorem lifted (os : Os) (started : os.Started) (H : Type) (enc : TypeId × Value → H) (F : Stop.Interp) :
    ReturnsInHanded {} Tryz.checked os 6 .any ((OpenSpec.ofChange Rows.shelfRoundsSpec).preRow enc Tryz.prog Tryz.f6 Rows.shelfRoundsRow.domain false Rows.shelfRoundsRow.laid) (((OpenSpec.ofChange Rows.shelfRoundsSpec).at F).post enc Tryz.prog Tryz.f6 false true false false):= by
  have a : ∃ places, DataW.whole enc Tryz.prog ((World.laidAll Tryz.prog os Rows.shelfRoundsRow.laid).forCall (fun _ _ => 0) ⟨#[], #[.slice none 0 0], []⟩).memory Tryz.f6.params.toList Rows.shelfRoundsSpec.vars false (#[.slice none 0 0] : Array Value).toList 8 = some ([.nil], [], places):= ⟨[], by kernel_rfl⟩;obtain ⟨places, a⟩ := a;have b : Input.okWideB Tryz.prog ((World.laidAll Tryz.prog os Rows.shelfRoundsRow.laid).forCall (fun _ _ => 0) ⟨#[], #[.slice none 0 0], []⟩) 6 ⟨#[], #[.slice none 0 0], []⟩ = true := by kernel_rfl
  refine returnsInHanded_of_row (C := Tryz.checked) (s := OpenSpec.ofChange Rows.shelfRoundsSpec) own started (by kernel_rfl) Tryz.func6
    ⟨World.laidAll Tryz.prog os Rows.shelfRoundsRow.laid, fun _ _ => 0, ⟨#[], #[.slice none 0 0], []⟩, World.laidAll_os _ _ _, World.shaped_of_ZipB (by kernel_rfl) (by kernel_rfl), (Input.okWide_of_okWideB (base := 0) b).1, (Input.okWide_of_okWideB b).2,
      OpenSpec.preRow_of_cond 8 a (by kernel_rfl) (fun k c => by cases c) (by kernel_rfl) (by rw [MakeChecks.laidMetH_plain _ _ _ (by kernel_rfl)];exact laidMet_laidAll _ (by kernel_rfl) (by kernel_rfl)), by
        simp only [Assume.holds];exact ⟨by simp, by simp, fun _ => Modest.zero, by simp, by simp⟩⟩ ?_
  intro W base args ds gs before d e _ c g h f _;exact KF H enc W base args ds gs before d e f
theorem said : Rows.ShelfRoundsSaid :=
  OpenClaim.holds_of_cond 6 Tryz.f6 rfl rfl rfl rfl rfl rfl rfl ⟨rfl, rfl, rfl, rfl, rfl⟩ rfl rfl rfl rfl rfl (by kernel_rfl) Tryz.func6 (by kernel_rfl)
    (of_decide_eq_true (by kernel_rfl)) (by unfold Func.isWrapper;first | (rw [if_pos (by decide +kernel)];kernel_rfl) | (rw [if_neg (by decide +kernel)];exact ⟨rfl, rfl⟩))
    (fun os started H enc _ F => by rw [OpenClaim.pre_eq_preRow];exact lifted os started H enc F)
theorem plain (f : FuncId) (fn : Func) (b : Tryz.pinned.checked.prog.funcNamed Rows.shelfRoundsRow.func = some f) (c : Tryz.pinned.checked.prog.funcs[f]? = some fn) :
    true = Tryz.pinned.checked.prog.looks [] ∧ ∀ (j : Nat) t, fn.params[j]? = some t → Tryz.pinned.checked.prog.wantsStandIn t = false := by
  obtain rfl : f = 6 := Option.some.inj ((show Tryz.prog.funcNamed Rows.shelfRoundsRow.func = some 6 by kernel_rfl).symm.trans b) |>.symm;obtain rfl : fn = Tryz.f6 := (Option.some.inj (Tryz.func6.symm.trans c)).symm;refine ⟨by kernel_rfl, fun j t a => ?_⟩;rw [Tryz.params6] at a;have hm : t ∈ [22]:= by
    first
      | simpa using Array.mem_of_getElem? a
      | (have := Array.mem_of_getElem? a; simp at this ⊢; exact this.symm)
  simp only [List.mem_cons, List.not_mem_nil, or_false] at hm;try (rcases hm with rfl | rfl)
  try subst hm
  exact (show Tryz.prog.wantsStandIn 22 = false by kernel_rfl)
theorem card : Rows.ShelfRoundsCardSaid :=
  Claim7.holds_tied_plain_at .later [] _ _ _ _ said (fun _ h => by cases h) (by kernel_rfl) (fun _ h => by cases h) shelfRounds_row_tie rfl ⟨rfl, rfl⟩ (by kernel_rfl) rfl plain (by kernel_rfl)
end Go.Proofs.YthdpoglpdpfnbaaGreatDoor.shelfRounds
