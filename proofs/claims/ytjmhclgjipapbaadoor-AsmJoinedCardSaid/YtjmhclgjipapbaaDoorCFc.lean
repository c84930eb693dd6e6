/- Closed facts. -/
import Derived.Test.YtjmhclgjipapbaaDoorCXt2
import Derived.Test.YtjmhclgjipapbaaDoorProg
import Derived.KernelRfl
set_option linter.unusedSectionVars false
set_option linter.unusedSimpArgs false
set_option linter.unusedVariables false
namespace Go.Proofs.YtjmhclgjipapbaaDoor
open Go.Wk Go.Xt
theorem isfn6 : IsFn Tryd.prog 6 := isFn_of Tryd.func6 rfl (by kernel_rfl)
theorem isfn7 : IsFn Tryd.prog 7 := isFn_of Tryd.func7 rfl (by kernel_rfl)
theorem isfn8 : IsFn Tryd.prog 8 := isFn_of Tryd.func8 rfl (by kernel_rfl)
theorem isfn13 : IsFn Tryd.prog 13 := isFn_of Tryd.func13 rfl (by kernel_rfl)
theorem isfn14 : IsFn Tryd.prog 14 := isFn_of Tryd.func14 rfl (by kernel_rfl)
theorem isfn15 : IsFn Tryd.prog 15 := isFn_of Tryd.func15 rfl (by kernel_rfl)
theorem isfn16 : IsFn Tryd.prog 16 := isFn_of Tryd.func16 rfl (by kernel_rfl)
theorem isfn17 : IsFn Tryd.prog 17 := isFn_of Tryd.func17 rfl (by kernel_rfl)
theorem isfn22 : IsFn Tryd.prog 22 := isFn_of Tryd.func22 rfl (by kernel_rfl)
theorem isfn23 : IsFn Tryd.prog 23 := isFn_of Tryd.func23 rfl (by kernel_rfl)
theorem isfn24 : IsFn Tryd.prog 24 := isFn_of Tryd.func24 rfl (by kernel_rfl)
theorem isfn25 : IsFn Tryd.prog 25 := isFn_of Tryd.func25 rfl (by kernel_rfl)
theorem isfn33 : IsFn Tryd.prog 33 := isFn_of Tryd.func33 rfl (by kernel_rfl)
theorem isfn34 : IsFn Tryd.prog 34 := isFn_of Tryd.func34 rfl (by kernel_rfl)
theorem isfn35 : IsFn Tryd.prog 35 := isFn_of Tryd.func35 rfl (by kernel_rfl)
theorem isfn36 : IsFn Tryd.prog 36 := isFn_of Tryd.func36 rfl (by kernel_rfl)
theorem isfn45 : IsFn Tryd.prog 45 := isFn_of Tryd.func45 rfl (by kernel_rfl)
theorem ti2 : TI Tryd.prog 2 false [.int .i64 0] 1 8 := ti_of (z := .int .i64 0) Tryd.underlying2 rfl (by kernel_rfl) rfl
theorem ti3 : TI Tryd.prog 3 false [.int .i64 0] 1 8 := ti_of (z := .int .i64 0) Tryd.underlying3 rfl (by kernel_rfl) rfl
theorem ti9 : TI Tryd.prog 9 false [S []] 1 16 := ti_of (z := S []) Tryd.underlying9 rfl (by kernel_rfl) rfl
theorem ti23 : TI Tryd.prog 23 false [.slice none 0 0] 1 24 := ti_of (z := .slice none 0 0) Tryd.underlying23 rfl (by kernel_rfl) rfl
theorem ti24 : TI Tryd.prog 24 false [.slice none 0 0] 1 24 := ti_of (z := .slice none 0 0) Tryd.underlying24 rfl (by kernel_rfl) rfl
theorem ti26 : TI Tryd.prog 26 true [.slice none 0 0, .slice none 0 0] 2 48 := ti_of (z := .agg #[.slice none 0 0, .slice none 0 0]) Tryd.underlying26 rfl (by kernel_rfl) rfl
theorem ti27 : TI Tryd.prog 27 false [.int .i64 0] 1 8 := ti_of (z := .int .i64 0) Tryd.underlying27 rfl (by kernel_rfl) rfl
theorem ti29 : TI Tryd.prog 29 true [.int .i64 0, .int .i64 0] 2 16 := ti_of (z := .agg #[.int .i64 0, .int .i64 0]) Tryd.underlying29 rfl (by kernel_rfl) rfl
theorem ti40 : TI Tryd.prog 40 false [.slice none 0 0] 1 24 := ti_of (z := .slice none 0 0) Tryd.underlying40 rfl (by kernel_rfl) rfl
theorem ti41 : TI Tryd.prog 41 false [.slice none 0 0] 1 24 := ti_of (z := .slice none 0 0) Tryd.underlying41 rfl (by kernel_rfl) rfl
theorem ti43 : TI Tryd.prog 43 true [.int .i64 0, .int .i64 0, .slice none 0 0, .int .i64 0, .int .i64 0, .slice none 0 0] 6 80 := ti_of (z := .agg #[.int .i64 0, .int .i64 0, .slice none 0 0, .int .i64 0, .int .i64 0, .slice none 0 0]) Tryd.underlying43 rfl (by kernel_rfl) rfl
theorem ti45 : TI Tryd.prog 45 true [.int .i64 0, .int .i64 0, .int .i64 0] 3 24 := ti_of (z := .agg #[.int .i64 0, .int .i64 0, .int .i64 0]) Tryd.underlying45 rfl (by kernel_rfl) rfl
theorem ti56 : TI Tryd.prog 56 true [.int .i64 0, .int .i64 0] 2 16 := ti_of (z := .agg #[.int .i64 0, .int .i64 0]) Tryd.underlying56 rfl (by kernel_rfl) rfl
theorem eg45 : Tryd.prog.eqGuardType Tryd.prog.depth 45 = false := by kernel_rfl
theorem eg56 : Tryd.prog.eqGuardType Tryd.prog.depth 56 = false := by kernel_rfl
theorem eh45 : Tryd.prog.stoodInHeld 45 = false := by kernel_rfl
theorem eh56 : Tryd.prog.stoodInHeld 56 = false := by kernel_rfl
theorem fa26_0 : FA Tryd.prog 26 0 0 := fa_of Tryd.underlying26 rfl rfl rfl ti23 rfl
theorem fa26_1 : FA Tryd.prog 26 1 1 := fa_of Tryd.underlying26 rfl rfl rfl ti24 rfl
theorem fa29_0 : FA Tryd.prog 29 0 0 := fa_of Tryd.underlying29 rfl rfl rfl ti27 rfl
theorem fa43_0 : FA Tryd.prog 43 0 0 := fa_of Tryd.underlying43 rfl rfl rfl ti3 rfl
theorem fa43_1 : FA Tryd.prog 43 1 1 := fa_of Tryd.underlying43 rfl rfl rfl ti3 rfl
theorem fa43_2 : FA Tryd.prog 43 2 2 := fa_of Tryd.underlying43 rfl rfl rfl ti40 rfl
theorem fa43_3 : FA Tryd.prog 43 3 3 := fa_of Tryd.underlying43 rfl rfl rfl ti3 rfl
theorem fa43_4 : FA Tryd.prog 43 4 4 := fa_of Tryd.underlying43 rfl rfl rfl ti3 rfl
theorem fa43_5 : FA Tryd.prog 43 5 5 := fa_of Tryd.underlying43 rfl rfl rfl ti41 rfl
theorem fa45_0 : FA Tryd.prog 45 0 0 := fa_of Tryd.underlying45 rfl rfl rfl ti3 rfl
theorem fa45_1 : FA Tryd.prog 45 1 1 := fa_of Tryd.underlying45 rfl rfl rfl ti3 rfl
theorem fa45_2 : FA Tryd.prog 45 2 2 := fa_of Tryd.underlying45 rfl rfl rfl ti2 rfl
theorem pl26 : PL Tryd.prog 26 #[(0, 1), (1, 1)] := pl_of Tryd.underlying26 (fun _ => by kernel_rfl)
theorem pl29 : PL Tryd.prog 29 #[(0, 1), (1, 1)] := pl_of Tryd.underlying29 (fun _ => by kernel_rfl)
theorem pl43 : PL Tryd.prog 43 #[(0, 1), (1, 1), (2, 1), (3, 1), (4, 1), (5, 1)] := pl_of Tryd.underlying43 (fun _ => by kernel_rfl)
theorem pl45 : PL Tryd.prog 45 #[(0, 1), (1, 1), (2, 1)] := pl_of Tryd.underlying45 (fun _ => by kernel_rfl)
theorem pl56 : PL Tryd.prog 56 #[(0, 1), (1, 1)] := pl_of Tryd.underlying56 (fun _ => by kernel_rfl)
end Go.Proofs.YtjmhclgjipapbaaDoor
