/- SynReads: the statement holds for every input; as the card says it (the listed variables are laid as the text lays them). -/
import Derived.Test.YtbdiobhgejmgoaaGreatDoorCXt
import Derived.ChangeSlices
import Derived.ChangeShapes
import Derived.Test.YtbdiobhgejmgoaaGreatDoorCards
import Derived.Test.YtbdiobhgejmgoaaGreatDoorTie
import Derived.WalkKit
import Derived.ProofKit
import Derived.OpenShut
import Derived.Deep.DeepHandedRow
import Derived.Lay
import Derived.SizedLaws
import Derived.Shelf.Vars
import Derived.Carry
import Derived.Test.YtbdiobhgejmgoaaGreatDoorCWl
import Derived.Test.YtbdiobhgejmgoaaGreatDoorCPl
set_option linter.unusedSimpArgs false
set_option linter.unusedVariables false
set_option linter.unusedSectionVars false
namespace Go.Kc
open Go.cc Go.RowKit Go.ChangeShapes
section
variable {H : Type}{enc : TypeId × Value → H}{P : Program}{W : World}{d : DataW H}{Cg : List MemPlace}{v : Value}
theorem Zz {w : World}{b i : Nat}{v : Value}(h : w.cell? ⟨b, i, none⟩ = some v) : b < w.heap.size := by
  refine Decidable.byContradiction fun a => ?_;have : w.heap[b]? = none := Array.getElem?_eq_none (by omega);simp [World.cell?, this] at h
theorem Ls {w w' : World}{b i : Nat}{v : Value}(h : w.cell? ⟨b, i, none⟩ = some v) (a : ∀ k, k < w.heap.size → w'.heap[k]? = w.heap[k]?) : w'.cell? ⟨b, i, none⟩ = some v := by
  have c := Zz h;simpa [World.cell?, a b c] using h
theorem bD {t e : TypeId}{μ : M}(r : P.underlying t = some (.slice e)) (he : P.underlying e = some (.int .i64)) (y : P.cellsOf e = 1) (h : DataW.Trod enc P W 0 (fun _ => true) true t v d Cg) (z : v.cells.toList = [v])
    (A : ∀ w, μ w → ∀ k, k < W.heap.size → w.heap[k]? = W.heap[k]?) :
    ∃ (a : Option Addr) (c : Nat) (l : List Int), v = .slice a l.length c ∧ Va μ a c l ∧ ∀ x ∈ l, -9223372036854775808 ≤ x ∧ x ≤ 9223372036854775807 := by
  obtain ⟨fuel, h⟩ := h;rw [z] at h;rcases open_ints r he y h with ⟨e, -⟩ | ⟨a, len, cap, g, e, -, H, B, C, -, m, D⟩
  · cases e;exact ⟨none, 0, [], rfl, Va.nil, by simp⟩
  · simp only [if_true] at C;cases e;have hlen : (g.take len).length = len := by rw [List.length_take];omega
    refine ⟨some a, cap, g.take len, by rw [hlen], ⟨by omega, B, ?_⟩, fun x f => ?_⟩
    · by_cases E : len = 0
      · left;subst E;simp
      · right;have n : a.spot = none := by
          have := m 0 (by omega);cases F : a.spot with
          | none => rfl
          | some q =>
            have e : (a.add 0).spot = some q := by simp [Addr.add, F]
            unfold World.cell? at this;rw [e] at this;simp at this;split at this<;>cases this
        obtain ⟨b, o, s⟩ := a;simp only at n;subst n;refine ⟨b, o, rfl, fun i => [.int .i64 (g.getD i 0)], fun i x f => ⟨fun w hw j u hu => ?_, ?_⟩⟩
        · have K : i < len := by
            have := (List.getElem?_eq_some_iff.1 f).1;omega
          have G : j = 0 := by
            have := (List.getElem?_eq_some_iff.1 hu).1;simpa using this
          subst G;cases hu;have p := m i (by omega);rw [Xk] at p;have := Ls p (A w hw);show w.cell? ⟨b, o + i * 1 + 0, none⟩ = _;rw [Nat.mul_one, Nat.add_zero];exact this
        · rw [List.getElem?_take] at f;split at f
          · show _ = _;simp [List.getD_eq_getElem?_getD, f]
          · cases f
    · have := D x (List.mem_of_mem_take f);simpa [Lit.wf, IntKind.min, IntKind.max, IntKind.signed, IntKind.bits] using this
theorem aD {t e : TypeId}{μ : M}(A : P.underlying t = some (.slice e)) (he : P.underlying e = some .bool) (B : P.cellsOf e = 1) (h : DataW.Trod enc P W 0 (fun _ => true) true t v d Cg) (C : v.cells.toList = [v])
    (D : ∀ w, μ w → ∀ k, k < W.heap.size → w.heap[k]? = W.heap[k]?) :
    ∃ (a : Option Addr) (c : Nat) (l : List Bool), v = .slice a l.length c ∧ Va μ a c l ∧ True := by
  obtain ⟨fuel, h⟩ := h;rw [C] at h;rcases DataW.trod_slice A h with ⟨e, -⟩ | ⟨a, len, cap, elems, rest, n, -, e, -, -, E, F, S, G, -⟩
  · cases e;exact ⟨none, 0, [], rfl, Va.nil, trivial⟩
  · cases e;have each : ∀ i, i < len → ∃ q : Bool, W.cell? (a.add i) = some (.bool q):= by
      intro i g;have p := G i g;rw [B, Nat.mul_one] at p;have H : i < elems.length := by omega
      rw [List.getElem?_eq_getElem H, Option.bind_eq_some_iff] at p;obtain ⟨cs, K, L⟩ := p;obtain ⟨q, rfl, -⟩ := DataW.trod_bool he L;exact ⟨q, cell_of_cells?_one K⟩
    let f : Nat → Bool := fun i => if g : i < len then Classical.choose (each i g) else false
    have r : ∀ i, i < len → W.cell? (a.add i) = some (.bool (f i)):= fun i g => by
      simp only [f, dif_pos g];exact Classical.choose_spec (each i g)
    refine ⟨some a, cap, (List.range len).map f, by simp, ⟨by simpa using E, F, ?_⟩, trivial⟩;by_cases N : len = 0
    · left;subst N;simp
    · right;have y : a.spot = none := by
        have := r 0 (by omega);cases Q : a.spot with
        | none => rfl
        | some q =>
          have e : (a.add 0).spot = some q := by simp [Addr.add, Q]
          unfold World.cell? at this;rw [e] at this;simp at this;split at this<;>cases this
      obtain ⟨b, o, s⟩ := a;simp only at y;subst y;refine ⟨b, o, rfl, fun i => [.bool (f i)], fun i x m => ⟨fun w hw j u hu => ?_, ?_⟩⟩
      · have g : i < len := by
          have := (List.getElem?_eq_some_iff.1 m).1;simpa using this
        have R : j = 0 := by
          have := (List.getElem?_eq_some_iff.1 hu).1;simpa using this
        subst R;cases hu;have z := r i g;rw [Xk] at z;have := Ls z (D w hw);show w.cell? ⟨b, o + i * 1 + 0, none⟩ = _;rw [Nat.mul_one, Nat.add_zero];exact this
      · have g : i < len := by
          have := (List.getElem?_eq_some_iff.1 m).1;simpa using this
        simp [g] at m;show [Value.bool (f i)] = [Value.bool x];rw [m]
end
end Go.Kc
namespace Go.Proofs.YtbdiobhgejmgoaaGreatDoor.synReads
open Go.cc Go.Kc Go.Y Go.ChangeShapes Go.WideShapes Go.ChangeAt Go.RowKit
theorem lC {d : List UInt8}(W : World) (e : ph (fun _ => True) W fc)  (f : hq 60001 d = some true) :
    vc Tryz.prog 3 [S d] W fun v w => v = .bool true ∧ Grow W w := by
  have g : Ma (fun w => fc w ∧ ∀ k, k < W.heap.size → w.heap[k]? = W.heap[k]?) W W []:= Sep.start W _ _ (e.and fun w' _ i k c => i k c trivial);refine (Nx (fu := 60001) (fun _ h => h.1)  f g).mono ?_;rintro v w' ⟨J, rfl, hle, b⟩;have c := hle _ b.a;exact ⟨rfl, b.keeps.os, b.keeps.tape, b.keeps.output, b.keeps.size, fun k j _ => c.2 k j⟩
theorem own : ownKnob Tryz.prog.godebug = none := by kernel_rfl
theorem laidOut : laidOutB Tryz.prog = true := by kernel_rfl
set_option maxRecDepth 100000 in
set_option maxHeartbeats 4000000 in
theorem fz (H : Type) (enc : TypeId × Value → H) (W : World) (base : Nat) (args : Array Value) (ds gs : List (DataW H)) (before : List MemPlace)
    (b : ∀ (j : Nat) t v, Tryz.f3.params[j]? = some t → args[j]? = some v → Value.okWide Tryz.prog W .any base t v)
    (d : DataW.Whole enc Tryz.prog Tryz.f3.params.toList Rows.synReadsSpec.vars false W args.toList ds gs before) (n : W.ShapedOpen Tryz.prog) :
    Calls Tryz.prog 3 args W fun e f => ∃ v, e = .returned v ∧ Rows.synReadsSpec.post enc Tryz.prog Tryz.f3 false true false false W args v f := by
  have a := d;obtain ⟨p, q, i, o, rfl, B, C⟩ := d;have l : DataW.TrodAll enc Tryz.prog W 0 (fun _ => true) true Tryz.f3.params.toList args.toList ds p := i;rw [Tryz.params3] at l b;obtain ⟨v0, D, E, F, oa, G, K, rfl, rfl, r, s⟩ := trodAll_cons l;obtain ⟨rfl, rfl, rfl⟩ := trodAll_nil s;obtain rfl : args = #[v0]:= by cases args;simp_all
  obtain ⟨rfl, rfl⟩ := trodVars_none o;clear i;simp only [List.append_nil] at a;have L := a.lt;obtain ⟨⟨⟨u⟩⟩, rfl, rfl, rfl, w⟩ := Go.ChangeMaps.open_string Tryz.underlying9 (b 0 9 v0 rfl rfl) r;obtain ⟨m, hm⟩ := cell_of_shapedOpen_int (P := Tryz.prog) (g := 3) (t := 3) (zero := #[.int .i64 0]) n (of_decide_eq_true (by kernel_rfl)) (by kernel_rfl) (by kernel_rfl) (by kernel_rfl) (by kernel_rfl) Tryz.underlying3;have x : ph (fun _ => True) W fc := fun w' _ y => ⟨m, Ls hm fun k z => y k z trivial⟩;have walk := (lC W x  (px u)).out;refine walk.mono fun e f he => ?_;cases e with
  | panicked c => exact he.elim
  | outgrown => exact he.elim
  | returned v =>
    obtain ⟨rfl, A⟩ := he;exact ⟨_, rfl, _, _, _, [], _, [], a, trodAll_cons_mk (shut_bool Tryz.underlying4 _) trodAll_mk0, (trodAll_cons_mk (Go.ChangeMaps.shut_string Tryz.underlying9 w) trodAll_mk0), rfl, A.below.frame _, fun h => by cases h⟩
theorem ZC : (World.laidAll Tryz.prog default Rows.synReadsRow.laid).os = default := World.laidAll_os _ _ _
set_option maxRecDepth 100000 in
theorem lifted (os : Os) (started : os.Started) (H : Type) (enc : TypeId × Value → H) (F : Stop.Interp) :
    ReturnsInHanded {} Tryz.checked os 3 .any ((OpenSpec.ofChange Rows.synReadsSpec).preRow enc Tryz.prog Tryz.f3 Rows.synReadsRow.domain false Rows.synReadsRow.laid) (((OpenSpec.ofChange Rows.synReadsSpec).at F).post enc Tryz.prog Tryz.f3 false true false false):= by
  have a : ∃ places, DataW.whole enc Tryz.prog ((World.laidAll Tryz.prog os Rows.synReadsRow.laid).forCall (fun _ _ => 0) ⟨#[], #[.string ⟨#[]⟩], []⟩).memory Tryz.f3.params.toList Rows.synReadsSpec.vars false (#[.string ⟨#[]⟩] : Array Value).toList 8 = some ([.lit (.string [])], [], places):= ⟨[], by kernel_rfl⟩;obtain ⟨places, a⟩ := a;have b : Input.okWideB Tryz.prog ((World.laidAll Tryz.prog os Rows.synReadsRow.laid).forCall (fun _ _ => 0) ⟨#[], #[.string ⟨#[]⟩], []⟩) 3 ⟨#[], #[.string ⟨#[]⟩], []⟩ = true := by kernel_rfl
  refine returnsInHanded_of_row (C := Tryz.checked) (s := OpenSpec.ofChange Rows.synReadsSpec) own started (by kernel_rfl) Tryz.func3
    ⟨World.laidAll Tryz.prog os Rows.synReadsRow.laid, fun _ _ => 0, ⟨#[], #[.string ⟨#[]⟩], []⟩, World.laidAll_os _ _ _, World.shaped_of_ZipB (by kernel_rfl) (by kernel_rfl), (Input.okWide_of_okWideB (base := 0) b).1, (Input.okWide_of_okWideB b).2,
      OpenSpec.preRow_of_cond 8 a (by kernel_rfl) (fun k c => by cases c) (by kernel_rfl) (by rw [MakeChecks.laidMetH_plain _ _ _ (by kernel_rfl)];exact laidMet_laidAll _ (by kernel_rfl) (by kernel_rfl)), by
        simp only [Assume.holds];exact ⟨by simp, by simp, fun _ => Modest.zero, by simp, by simp⟩⟩ ?_
  intro W base args ds gs before d e _ c g h f _;exact fz H enc W base args ds gs before d e f
theorem said : Rows.SynReadsSaid :=
  OpenClaim.holds_of_cond 3 Tryz.f3 rfl rfl rfl rfl rfl rfl rfl ⟨rfl, rfl, rfl, rfl, rfl⟩ rfl rfl rfl rfl rfl (by kernel_rfl) Tryz.func3 (by kernel_rfl)
    (of_decide_eq_true (by kernel_rfl)) (by unfold Func.isWrapper;first | (rw [if_pos (by decide +kernel)];kernel_rfl) | (rw [if_neg (by decide +kernel)];exact ⟨rfl, rfl⟩))
    (fun os started H enc _ F => by rw [OpenClaim.pre_eq_preRow];exact lifted os started H enc F)
theorem plain (f : FuncId) (fn : Func) (b : Tryz.pinned.checked.prog.funcNamed Rows.synReadsRow.func = some f) (c : Tryz.pinned.checked.prog.funcs[f]? = some fn) :
    true = Tryz.pinned.checked.prog.looks [] ∧ ∀ (j : Nat) t, fn.params[j]? = some t → Tryz.pinned.checked.prog.wantsStandIn t = false := by
  obtain rfl : f = 3 := Option.some.inj ((show Tryz.prog.funcNamed Rows.synReadsRow.func = some 3 by kernel_rfl).symm.trans b) |>.symm;obtain rfl : fn = Tryz.f3 := (Option.some.inj (Tryz.func3.symm.trans c)).symm;refine ⟨by kernel_rfl, fun j t a => ?_⟩;rw [Tryz.params3] at a;have hm : t ∈ [9]:= by
    first
      | simpa using Array.mem_of_getElem? a
      | (have := Array.mem_of_getElem? a; simp at this ⊢; exact this.symm)
  simp only [List.mem_cons, List.not_mem_nil, or_false] at hm;try (rcases hm with rfl | rfl)
  try subst hm
  exact (show Tryz.prog.wantsStandIn 9 = false by kernel_rfl)
theorem card : Rows.SynReadsCardSaid :=
  Claim7.holds_tied_plain_at .later [] _ _ _ _ said (fun _ h => by cases h) (by kernel_rfl) (fun _ h => by cases h) synReads_row_tie rfl ⟨rfl, rfl⟩ (by kernel_rfl) rfl plain (by kernel_rfl)
end Go.Proofs.YtbdiobhgejmgoaaGreatDoor.synReads
