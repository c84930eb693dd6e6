/- What a row's laid variables give: the facts that the walks ask of package-level variables, at any world that keeps the blocks. -/
import Derived.Test.YtjmhclgjipapbaaDoorCAsm2W
import Derived.Test.YtjmhclgjipapbaaDoorCAsmLawT
import Derived.Test.YtjmhclgjipapbaaDoorRows
import Derived.LaidSub
import Derived.MakeChecks
import Derived.Lib.LaidTab
import Derived.Shelf.Vars
set_option linter.unusedSectionVars false
set_option linter.unusedVariables false
set_option linter.unusedSimpArgs false
namespace Go.Proofs.YtjmhclgjipapbaaDoor
open Go.Wk Go.Xt Go.Y Go.RowKit
theorem trod_iface {P : Program} {w : World} {t : TypeId} {cs : List Value} {fuel : Nat} {d : DataW Unit} {p : List MemPlace} {x : Array (String × TypeId)} (h : DataW.trod (fun _ => ()) P w 0 (fun _ => true) false fuel t cs = some (d, p)) (hi : ∃ x, P.underlying t = some (.interface x)) :
    ∃ ev, cs = [ev] ∧ (ev = .nilIface ∨ ∃ te pe, ev = .iface te pe) := by
  obtain ⟨x, hi⟩ := hi
  cases fuel with
  | zero => simp [DataW.trod] at h
  | succ n =>
    unfold DataW.trod at h
    rw [hi] at h
    split at h <;> simp_all
theorem var_iface {P : Program} {w : World} {n : String} {g : Nat} {t : TypeId} {d : DataW Unit} {rest : List (String × DataW Unit)} (h : laidMet P ((n, d) :: rest) w) (hg : P.globalNamed n = some g) (ht : (P.globals[g]?).map (·.type) = some t)
    (hi : ∃ x, P.underlying t = some (.interface x)) : ∃ ev, w.cell? ⟨g, 0, none⟩ = some ev ∧ (ev = .nilIface ∨ ∃ te pe, ev = .iface te pe) := by
  obtain ⟨ps, ⟨g', t', cs, fuel, p, q, hg', ht', hvar, hd, _, _⟩, _⟩ := h
  obtain rfl := Option.some.inj (hg.symm.trans hg')
  obtain rfl := Option.some.inj (ht.symm.trans ht')
  obtain ⟨ev, hev, hk⟩ := trod_iface (x := #[]) hd hi
  refine ⟨ev, ?_, hk⟩
  have := World.var?_cell hg hvar 0
  rw [this]
  have : cs = #[ev] := by cases cs; simp_all
  subst this
  rfl
theorem rob_cell {w : World} {b i : Nat} {v : Value} (h : w.cell? ⟨b, i, none⟩ = some v) : Rob (fun _ => True) w (fun w' => w'.cell? ⟨b, i, none⟩ = some v) := fun w' _ hb => by
  have hl : b < w.heap.size := by
    refine Decidable.byContradiction fun hn => ?_
    have : w.heap[b]? = none := Array.getElem?_eq_none (by omega)
    simp [World.cell?, this] at h
  simpa [World.cell?, hb b hl trivial] using h
theorem rob_tab {P : Program} {w : World} {n : String} {g : Nat} {k : IntKind} {zs : List Int} (hg : P.globalNamed n = some g) (h : Lib.TabIs P w n k zs) : Rob (fun _ => True) w (fun w' => Lib.TabIs P w' n k zs) := fun w' _ hb => by
  unfold Lib.TabIs World.var? at h ⊢
  rw [hg] at h ⊢
  simp only [Option.bind_some] at h ⊢
  have hl : g < w.heap.size := by
    refine Decidable.byContradiction fun hn => ?_
    have : w.heap[g]? = none := Array.getElem?_eq_none (by omega)
    simp [this] at h
  rw [hb g hl trivial]; exact h
theorem gm_of_laid {W : World} (hL : laidMetH Tryd.prog Rows.asmJoinedRow.laid W) (hsh : W.ShapedOpen Tryd.prog) : Rob (fun _ => True) W Gm := by
  have hp : ∀ l : List (String × DataW Unit), Rows.asmJoinedRow.laid.filter (fun x => l.map (·.1) == [x.1]) = l → (l.all fun x => x.2.handleName?.isNone) = true → laidMet Tryd.prog l W := fun l hl hn => by
    have := laidMetH.filter (fun x => l.map (·.1) == [x.1]) hL
    rw [hl, MakeChecks.laidMetH_plain _ _ _ hn] at this
    exact this
  have h1 : Lib.TabIs Tryd.prog W "internal/strconv.uint64pow10" .u64 Lib.pow10Tab :=
    Lib.tabIs_of_head (g := 1) (t := 107) (e := 96) (n := 20) (by kernel_rfl) (by kernel_rfl) (by kernel_rfl) (by kernel_rfl) (by kernel_rfl) (by kernel_rfl) (hp [("internal/strconv.uint64pow10", Rows.laid_internal_strconv_uint64pow10)] (by rfl) (by kernel_rfl))
  obtain ⟨m, h0⟩ := cell_of_shapedOpen_int (P := Tryd.prog) (g := 0) (t := 3) (zero := #[.int .i64 0]) hsh (of_decide_eq_true (by kernel_rfl)) (by kernel_rfl) (by kernel_rfl) (by kernel_rfl) (by kernel_rfl) Tryd.underlying3
  obtain ⟨e2, h2, k2⟩ := var_iface (g := 2) (t := 63) (hp [("strconv.ErrSyntax", Rows.laid_strconv_ErrSyntax)] (by rfl) (by kernel_rfl)) (by kernel_rfl) (by kernel_rfl) ⟨_, Tryd.underlying63⟩
  obtain ⟨e3, h3, k3⟩ := var_iface (g := 3) (t := 63) (hp [("strconv.ErrRange", Rows.laid_strconv_ErrRange)] (by rfl) (by kernel_rfl)) (by kernel_rfl) (by kernel_rfl) ⟨_, Tryd.underlying63⟩
  exact fun w' hs hb => ⟨⟨m, rob_cell h0 w' hs hb⟩, rob_tab (g := 1) (by kernel_rfl) h1 w' hs hb, ⟨e2, rob_cell h2 w' hs hb, k2⟩, ⟨e3, rob_cell h3 w' hs hb, k3⟩⟩
theorem le_and_left {A B : M} : Le A (fun w => A w ∧ B w) := fun _ h => h.1
/-- AsmJoined, at any world whose laid variables are so. -/
theorem asmJoined_c (s t : List UInt8) (hs : s.length ≤ 140737488355328) (ht : t.length ≤ 140737488355328) (W : World) (hr : Rob (fun _ => True) W Gm) : CallsV Tryd.prog 3 [S s, S t] W fun v w => v = .bool true ∧ Grow W w := by
  have hS : Sq (fun w => Gm w ∧ ∀ k, k < W.heap.size → w.heap[k]? = W.heap[k]?) W W [] := Sep.start W _ _ (hr.and fun w' _ hb k hk => hb k hk trivial)
  refine (asm_joined_w (fu := 60001) le_and_left (joined 60001 (by decide) s t hs ht) hS).mono ?_
  rintro v w' ⟨μ', rfl, hle, hS'⟩
  have hk := hle _ hS'.a
  exact ⟨rfl, hS'.keeps.os, hS'.keeps.tape, hS'.keeps.output, hS'.keeps.size, fun k hk' _ => hk.2 k hk'⟩
end Go.Proofs.YtjmhclgjipapbaaDoor
