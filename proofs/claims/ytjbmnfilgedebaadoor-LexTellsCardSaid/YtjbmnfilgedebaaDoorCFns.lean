/- The closed facts of this program that the calculus asks: its functions have bodies; its types' cells; where fields lie. -/
import Derived.Test.YtjbmnfilgedebaaDoorProg
import Derived.Test.YtjbmnfilgedebaaDoorCWkDraw
import Derived.KernelRfl
set_option linter.unusedVariables false
set_option linter.unusedSimpArgs false
namespace Go.Proofs.YtjbmnfilgedebaaDoor
open Go.Wk
theorem isfn2 : IsFn Tryd.prog 2 := isFn_of Tryd.func2 rfl (by kernel_rfl)
theorem isfn3 : IsFn Tryd.prog 3 := isFn_of Tryd.func3 rfl (by kernel_rfl)
theorem isfn4 : IsFn Tryd.prog 4 := isFn_of Tryd.func4 rfl (by kernel_rfl)
theorem isfn5 : IsFn Tryd.prog 5 := isFn_of Tryd.func5 rfl (by kernel_rfl)
theorem isfn6 : IsFn Tryd.prog 6 := isFn_of Tryd.func6 rfl (by kernel_rfl)
theorem isfn7 : IsFn Tryd.prog 7 := isFn_of Tryd.func7 rfl (by kernel_rfl)
theorem isfn8 : IsFn Tryd.prog 8 := isFn_of Tryd.func8 rfl (by kernel_rfl)
theorem isfn9 : IsFn Tryd.prog 9 := isFn_of Tryd.func9 rfl (by kernel_rfl)
theorem isfn10 : IsFn Tryd.prog 10 := isFn_of Tryd.func10 rfl (by kernel_rfl)
theorem isfn11 : IsFn Tryd.prog 11 := isFn_of Tryd.func11 rfl (by kernel_rfl)
theorem isfn12 : IsFn Tryd.prog 12 := isFn_of Tryd.func12 rfl (by kernel_rfl)
theorem isfn13 : IsFn Tryd.prog 13 := isFn_of Tryd.func13 rfl (by kernel_rfl)
theorem isfn14 : IsFn Tryd.prog 14 := isFn_of Tryd.func14 rfl (by kernel_rfl)
theorem isfn15 : IsFn Tryd.prog 15 := isFn_of Tryd.func15 rfl (by kernel_rfl)
theorem isfn16 : IsFn Tryd.prog 16 := isFn_of Tryd.func16 rfl (by kernel_rfl)
theorem isfn17 : IsFn Tryd.prog 17 := isFn_of Tryd.func17 rfl (by kernel_rfl)
theorem isfn18 : IsFn Tryd.prog 18 := isFn_of Tryd.func18 rfl (by kernel_rfl)
theorem isfn19 : IsFn Tryd.prog 19 := isFn_of Tryd.func19 rfl (by kernel_rfl)
theorem isfn20 : IsFn Tryd.prog 20 := isFn_of Tryd.func20 rfl (by kernel_rfl)
theorem isfn21 : IsFn Tryd.prog 21 := isFn_of Tryd.func21 rfl (by kernel_rfl)
theorem isfn22 : IsFn Tryd.prog 22 := isFn_of Tryd.func22 rfl (by kernel_rfl)
theorem isfn23 : IsFn Tryd.prog 23 := isFn_of Tryd.func23 rfl (by kernel_rfl)
theorem isfn24 : IsFn Tryd.prog 24 := isFn_of Tryd.func24 rfl (by kernel_rfl)
theorem isfn25 : IsFn Tryd.prog 25 := isFn_of Tryd.func25 rfl (by kernel_rfl)
theorem isfn26 : IsFn Tryd.prog 26 := isFn_of Tryd.func26 rfl (by kernel_rfl)
theorem isfn27 : IsFn Tryd.prog 27 := isFn_of Tryd.func27 rfl (by kernel_rfl)
theorem isfn28 : IsFn Tryd.prog 28 := isFn_of Tryd.func28 rfl (by kernel_rfl)
theorem isfn29 : IsFn Tryd.prog 29 := isFn_of Tryd.func29 rfl (by kernel_rfl)
theorem isfn30 : IsFn Tryd.prog 30 := isFn_of Tryd.func30 rfl (by kernel_rfl)
theorem isfn31 : IsFn Tryd.prog 31 := isFn_of Tryd.func31 rfl (by kernel_rfl)
theorem isfn32 : IsFn Tryd.prog 32 := isFn_of Tryd.func32 rfl (by kernel_rfl)
theorem isfn33 : IsFn Tryd.prog 33 := isFn_of Tryd.func33 rfl (by kernel_rfl)
theorem isfn34 : IsFn Tryd.prog 34 := isFn_of Tryd.func34 rfl (by kernel_rfl)
theorem isfn35 : IsFn Tryd.prog 35 := isFn_of Tryd.func35 rfl (by kernel_rfl)
theorem isfn36 : IsFn Tryd.prog 36 := isFn_of Tryd.func36 rfl (by kernel_rfl)
theorem isfn37 : IsFn Tryd.prog 37 := isFn_of Tryd.func37 rfl (by kernel_rfl)
theorem isfn38 : IsFn Tryd.prog 38 := isFn_of Tryd.func38 rfl (by kernel_rfl)
theorem isfn39 : IsFn Tryd.prog 39 := isFn_of Tryd.func39 rfl (by kernel_rfl)
theorem isfn40 : IsFn Tryd.prog 40 := isFn_of Tryd.func40 rfl (by kernel_rfl)
theorem isfn41 : IsFn Tryd.prog 41 := isFn_of Tryd.func41 rfl (by kernel_rfl)
theorem isfn43 : IsFn Tryd.prog 43 := isFn_of Tryd.func43 rfl (by kernel_rfl)
theorem isfn44 : IsFn Tryd.prog 44 := isFn_of Tryd.func44 rfl (by kernel_rfl)
theorem isfn45 : IsFn Tryd.prog 45 := isFn_of Tryd.func45 rfl (by kernel_rfl)
theorem isfn47 : IsFn Tryd.prog 47 := isFn_of Tryd.func47 rfl (by kernel_rfl)
theorem isfn48 : IsFn Tryd.prog 48 := isFn_of Tryd.func48 rfl (by kernel_rfl)
theorem isfn49 : IsFn Tryd.prog 49 := isFn_of Tryd.func49 rfl (by kernel_rfl)
theorem isfn50 : IsFn Tryd.prog 50 := isFn_of Tryd.func50 rfl (by kernel_rfl)
theorem isfn51 : IsFn Tryd.prog 51 := isFn_of Tryd.func51 rfl (by kernel_rfl)
theorem isfn52 : IsFn Tryd.prog 52 := isFn_of Tryd.func52 rfl (by kernel_rfl)
theorem isfn53 : IsFn Tryd.prog 53 := isFn_of Tryd.func53 rfl (by kernel_rfl)
theorem isfn54 : IsFn Tryd.prog 54 := isFn_of Tryd.func54 rfl (by kernel_rfl)
theorem isfn55 : IsFn Tryd.prog 55 := isFn_of Tryd.func55 rfl (by kernel_rfl)
theorem isfn56 : IsFn Tryd.prog 56 := isFn_of Tryd.func56 rfl (by kernel_rfl)
theorem isfn57 : IsFn Tryd.prog 57 := isFn_of Tryd.func57 rfl (by kernel_rfl)
theorem isfn58 : IsFn Tryd.prog 58 := isFn_of Tryd.func58 rfl (by kernel_rfl)
theorem isfn59 : IsFn Tryd.prog 59 := isFn_of Tryd.func59 rfl (by kernel_rfl)
theorem isfn86 : IsFn Tryd.prog 86 := isFn_of Tryd.func86 rfl (by kernel_rfl)
theorem ti2 : TI Tryd.prog 2 false [.int .i64 0] 1 8 := ti_of (z := .int .i64 0) Tryd.underlying2 rfl (by kernel_rfl) rfl
theorem ti3 : TI Tryd.prog 3 false [.int .i64 0] 1 8 := ti_of (z := .int .i64 0) Tryd.underlying3 rfl (by kernel_rfl) rfl
theorem ti4 : TI Tryd.prog 4 false [.bool false] 1 1 := ti_of (z := .bool false) Tryd.underlying4 rfl (by kernel_rfl) rfl
theorem ti5 : TI Tryd.prog 5 false [.int .u8 0] 1 1 := ti_of (z := .int .u8 0) Tryd.underlying5 rfl (by kernel_rfl) rfl
theorem ti6 : TI Tryd.prog 6 false [.int .u8 0] 1 1 := ti_of (z := .int .u8 0) Tryd.underlying6 rfl (by kernel_rfl) rfl
theorem ti7 : TI Tryd.prog 7 true [.int .i64 0, .int .i64 0, .bool false, .int .u8 0] 4 24 := ti_of (z := .agg #[.int .i64 0, .int .i64 0, .bool false, .int .u8 0]) Tryd.underlying7 rfl (by kernel_rfl) rfl
theorem ti8 : TI Tryd.prog 8 true [.int .i64 0, .int .i64 0, .bool false, .int .u8 0] 4 24 := ti_of (z := .agg #[.int .i64 0, .int .i64 0, .bool false, .int .u8 0]) Tryd.underlying8 rfl (by kernel_rfl) rfl
theorem ti9 : TI Tryd.prog 9 false [S []] 1 16 := ti_of (z := S []) Tryd.underlying9 rfl (by kernel_rfl) rfl
theorem ti10 : TI Tryd.prog 10 false [S []] 1 16 := ti_of (z := S []) Tryd.underlying10 rfl (by kernel_rfl) rfl
theorem ti11 : TI Tryd.prog 11 false [S []] 1 16 := ti_of (z := S []) Tryd.underlying11 rfl (by kernel_rfl) rfl
theorem ti12 : TI Tryd.prog 12 false [.int .u64 0] 1 8 := ti_of (z := .int .u64 0) Tryd.underlying12 rfl (by kernel_rfl) rfl
theorem ti13 : TI Tryd.prog 13 true [S [], .int .u64 0] 2 24 := ti_of (z := .agg #[S [], .int .u64 0]) Tryd.underlying13 rfl (by kernel_rfl) rfl
theorem ti14 : TI Tryd.prog 14 true [S [], .int .u64 0] 2 24 := ti_of (z := .agg #[S [], .int .u64 0]) Tryd.underlying14 rfl (by kernel_rfl) rfl
theorem ti15 : TI Tryd.prog 15 false [.pointer none] 1 8 := ti_of (z := .pointer none) Tryd.underlying15 rfl (by kernel_rfl) rfl
theorem ti16 : TI Tryd.prog 16 false [.pointer none] 1 8 := ti_of (z := .pointer none) Tryd.underlying16 rfl (by kernel_rfl) rfl
theorem ti17 : TI Tryd.prog 17 false [.pointer none] 1 8 := ti_of (z := .pointer none) Tryd.underlying17 rfl (by kernel_rfl) rfl
theorem ti18 : TI Tryd.prog 18 true [.pointer none] 1 8 := ti_of (z := .agg #[.pointer none]) Tryd.underlying18 rfl (by kernel_rfl) rfl
theorem ti19 : TI Tryd.prog 19 true [.pointer none] 1 8 := ti_of (z := .agg #[.pointer none]) Tryd.underlying19 rfl (by kernel_rfl) rfl
theorem ti20 : TI Tryd.prog 20 false [.nilIface] 1 16 := ti_of (z := .nilIface) Tryd.underlying20 rfl (by kernel_rfl) rfl
theorem ti21 : TI Tryd.prog 21 false [.int .i32 0] 1 4 := ti_of (z := .int .i32 0) Tryd.underlying21 rfl (by kernel_rfl) rfl
theorem ti23 : TI Tryd.prog 23 false [.slice none 0 0] 1 24 := ti_of (z := .slice none 0 0) Tryd.underlying23 rfl (by kernel_rfl) rfl
theorem ti24 : TI Tryd.prog 24 false [.int .i64 0] 1 8 := ti_of (z := .int .i64 0) Tryd.underlying24 rfl (by kernel_rfl) rfl
theorem ti25 : TI Tryd.prog 25 true [.int .i64 0, .int .i64 0] 2 16 := ti_of (z := .agg #[.int .i64 0, .int .i64 0]) Tryd.underlying25 rfl (by kernel_rfl) rfl
theorem ti26 : TI Tryd.prog 26 true [.int .i64 0, .int .i64 0] 2 16 := ti_of (z := .agg #[.int .i64 0, .int .i64 0]) Tryd.underlying26 rfl (by kernel_rfl) rfl
theorem ti29 : TI Tryd.prog 29 true [.int .i64 0, S [], .int .i64 0, .int .i64 0] 4 40 := ti_of (z := .agg #[.int .i64 0, S [], .int .i64 0, .int .i64 0]) Tryd.underlying29 rfl (by kernel_rfl) rfl
theorem ti30 : TI Tryd.prog 30 true [.int .i64 0, S [], .int .i64 0, .int .i64 0] 4 40 := ti_of (z := .agg #[.int .i64 0, S [], .int .i64 0, .int .i64 0]) Tryd.underlying30 rfl (by kernel_rfl) rfl
theorem ti37 : TI Tryd.prog 37 false [.nilIface] 1 16 := ti_of (z := .nilIface) Tryd.underlying37 rfl (by kernel_rfl) rfl
theorem ti38 : TI Tryd.prog 38 false [.nilIface] 1 16 := ti_of (z := .nilIface) Tryd.underlying38 rfl (by kernel_rfl) rfl
theorem ti44 : TI Tryd.prog 44 false [.slice none 0 0] 1 24 := ti_of (z := .slice none 0 0) Tryd.underlying44 rfl (by kernel_rfl) rfl
theorem ti45 : TI Tryd.prog 45 false [.slice none 0 0] 1 24 := ti_of (z := .slice none 0 0) Tryd.underlying45 rfl (by kernel_rfl) rfl
theorem ti47 : TI Tryd.prog 47 false [.int .i64 0] 1 8 := ti_of (z := .int .i64 0) Tryd.underlying47 rfl (by kernel_rfl) rfl
theorem ti48 : TI Tryd.prog 48 false [.int .u64 0] 1 8 := ti_of (z := .int .u64 0) Tryd.underlying48 rfl (by kernel_rfl) rfl
theorem ti51 : TI Tryd.prog 51 false [.int .u64 0] 1 8 := ti_of (z := .int .u64 0) Tryd.underlying51 rfl (by kernel_rfl) rfl
theorem ti52 : TI Tryd.prog 52 false [.pointer none] 1 8 := ti_of (z := .pointer none) Tryd.underlying52 rfl (by kernel_rfl) rfl
theorem ti56 : TI Tryd.prog 56 true [S [], S [], .nilIface] 3 48 := ti_of (z := .agg #[S [], S [], .nilIface]) Tryd.underlying56 rfl (by kernel_rfl) rfl
theorem ti57 : TI Tryd.prog 57 true [S [], S [], .nilIface] 3 48 := ti_of (z := .agg #[S [], S [], .nilIface]) Tryd.underlying57 rfl (by kernel_rfl) rfl
theorem ti62 : TI Tryd.prog 62 false [.pointer none] 1 8 := ti_of (z := .pointer none) Tryd.underlying62 rfl (by kernel_rfl) rfl
theorem ti63 : TI Tryd.prog 63 false [.pointer none] 1 8 := ti_of (z := .pointer none) Tryd.underlying63 rfl (by kernel_rfl) rfl
theorem ti64 : TI Tryd.prog 64 true [S []] 1 16 := ti_of (z := .agg #[S []]) Tryd.underlying64 rfl (by kernel_rfl) rfl
theorem ti65 : TI Tryd.prog 65 true [S []] 1 16 := ti_of (z := .agg #[S []]) Tryd.underlying65 rfl (by kernel_rfl) rfl
theorem ti66 : TI Tryd.prog 66 false [.int .u32 0] 1 4 := ti_of (z := .int .u32 0) Tryd.underlying66 rfl (by kernel_rfl) rfl
theorem ti70 : TI Tryd.prog 70 true [.int .u8 0, .int .u8 0, .int .u8 0, .int .u8 0, .int .u8 0, .int .u8 0, .int .u8 0, .int .u8 0, .int .u8 0, .int .u8 0, .int .u8 0, .int .u8 0, .int .u8 0, .int .u8 0, .int .u8 0, .int .u8 0, .int .u8 0, .int .u8 0, .int .u8 0, .int .u8 0, .int .u8 0, .int .u8 0, .int .u8 0, .int .u8 0] 24 24 := ti_of (z := .agg #[.int .u8 0, .int .u8 0, .int .u8 0, .int .u8 0, .int .u8 0, .int .u8 0, .int .u8 0, .int .u8 0, .int .u8 0, .int .u8 0, .int .u8 0, .int .u8 0, .int .u8 0, .int .u8 0, .int .u8 0, .int .u8 0, .int .u8 0, .int .u8 0, .int .u8 0, .int .u8 0, .int .u8 0, .int .u8 0, .int .u8 0, .int .u8 0]) Tryd.underlying70 rfl (by kernel_rfl) rfl
theorem ti76 : TI Tryd.prog 76 true [.int .u64 0, .int .u64 0, .int .u64 0, .int .u64 0, .int .u64 0, .int .u64 0, .int .u64 0, .int .u64 0, .int .u64 0, .int .u64 0, .int .u64 0, .int .u64 0, .int .u64 0, .int .u64 0, .int .u64 0, .int .u64 0, .int .u64 0, .int .u64 0, .int .u64 0, .int .u64 0] 20 160 := ti_of (z := .agg #[.int .u64 0, .int .u64 0, .int .u64 0, .int .u64 0, .int .u64 0, .int .u64 0, .int .u64 0, .int .u64 0, .int .u64 0, .int .u64 0, .int .u64 0, .int .u64 0, .int .u64 0, .int .u64 0, .int .u64 0, .int .u64 0, .int .u64 0, .int .u64 0, .int .u64 0, .int .u64 0]) Tryd.underlying76 rfl (by kernel_rfl) rfl
theorem ti81 : TI Tryd.prog 81 true [.int .u8 0, .int .u8 0, .int .u8 0, .int .u8 0, .int .u8 0, .int .u8 0, .int .u8 0, .int .u8 0, .int .u8 0, .int .u8 0, .int .u8 0, .int .u8 0, .int .u8 0, .int .u8 0, .int .u8 0, .int .u8 0, .int .u8 0, .int .u8 0, .int .u8 0, .int .u8 0, .int .u8 0, .int .u8 0, .int .u8 0, .int .u8 0, .int .u8 0, .int .u8 0, .int .u8 0, .int .u8 0, .int .u8 0, .int .u8 0, .int .u8 0, .int .u8 0] 32 32 := ti_of (z := .agg #[.int .u8 0, .int .u8 0, .int .u8 0, .int .u8 0, .int .u8 0, .int .u8 0, .int .u8 0, .int .u8 0, .int .u8 0, .int .u8 0, .int .u8 0, .int .u8 0, .int .u8 0, .int .u8 0, .int .u8 0, .int .u8 0, .int .u8 0, .int .u8 0, .int .u8 0, .int .u8 0, .int .u8 0, .int .u8 0, .int .u8 0, .int .u8 0, .int .u8 0, .int .u8 0, .int .u8 0, .int .u8 0, .int .u8 0, .int .u8 0, .int .u8 0, .int .u8 0]) Tryd.underlying81 rfl (by kernel_rfl) rfl
theorem ti82 : TI Tryd.prog 82 true [.int .u8 0, .int .u8 0, .int .u8 0, .int .u8 0, .int .u8 0, .int .u8 0, .int .u8 0, .int .u8 0, .int .u8 0, .int .u8 0, .int .u8 0, .int .u8 0, .int .u8 0, .int .u8 0, .int .u8 0, .int .u8 0, .int .u8 0, .int .u8 0, .int .u8 0, .int .u8 0, .int .u8 0, .int .u8 0, .int .u8 0, .int .u8 0, .int .u8 0, .int .u8 0, .int .u8 0, .int .u8 0, .int .u8 0, .int .u8 0, .int .u8 0, .int .u8 0, .int .u8 0, .int .u8 0, .int .u8 0, .int .u8 0, .int .u8 0, .int .u8 0, .int .u8 0, .int .u8 0, .int .u8 0, .int .u8 0, .int .u8 0, .int .u8 0, .int .u8 0, .int .u8 0, .int .u8 0, .int .u8 0, .int .u8 0, .int .u8 0, .int .u8 0, .int .u8 0, .int .u8 0, .int .u8 0, .int .u8 0, .int .u8 0, .int .u8 0, .int .u8 0, .int .u8 0, .int .u8 0, .int .u8 0, .int .u8 0, .int .u8 0, .int .u8 0] 64 64 := ti_of (z := .agg #[.int .u8 0, .int .u8 0, .int .u8 0, .int .u8 0, .int .u8 0, .int .u8 0, .int .u8 0, .int .u8 0, .int .u8 0, .int .u8 0, .int .u8 0, .int .u8 0, .int .u8 0, .int .u8 0, .int .u8 0, .int .u8 0, .int .u8 0, .int .u8 0, .int .u8 0, .int .u8 0, .int .u8 0, .int .u8 0, .int .u8 0, .int .u8 0, .int .u8 0, .int .u8 0, .int .u8 0, .int .u8 0, .int .u8 0, .int .u8 0, .int .u8 0, .int .u8 0, .int .u8 0, .int .u8 0, .int .u8 0, .int .u8 0, .int .u8 0, .int .u8 0, .int .u8 0, .int .u8 0, .int .u8 0, .int .u8 0, .int .u8 0, .int .u8 0, .int .u8 0, .int .u8 0, .int .u8 0, .int .u8 0, .int .u8 0, .int .u8 0, .int .u8 0, .int .u8 0, .int .u8 0, .int .u8 0, .int .u8 0, .int .u8 0, .int .u8 0, .int .u8 0, .int .u8 0, .int .u8 0, .int .u8 0, .int .u8 0, .int .u8 0, .int .u8 0]) Tryd.underlying82 rfl (by kernel_rfl) rfl
theorem ti84 : TI Tryd.prog 84 true [.pointer none, .pointer none, .pointer none, S []] 4 40 := ti_of (z := .agg #[.pointer none, .pointer none, .pointer none, S []]) Tryd.underlying84 rfl (by kernel_rfl) rfl
theorem ti85 : TI Tryd.prog 85 true [.pointer none, .pointer none, .pointer none, S []] 4 40 := ti_of (z := .agg #[.pointer none, .pointer none, .pointer none, S []]) Tryd.underlying85 rfl (by kernel_rfl) rfl
theorem ti90 : TI Tryd.prog 90 false [.int .u8 0] 1 1 := ti_of (z := .int .u8 0) Tryd.underlying90 rfl (by kernel_rfl) rfl
theorem ti91 : TI Tryd.prog 91 false [.int .u8 0] 1 1 := ti_of (z := .int .u8 0) Tryd.underlying91 rfl (by kernel_rfl) rfl
theorem fa7_0 : FA Tryd.prog 7 0 0 := fa_of Tryd.underlying7 rfl rfl rfl ti2 rfl
theorem fa7_1 : FA Tryd.prog 7 1 1 := fa_of Tryd.underlying7 rfl rfl rfl ti3 rfl
theorem fa7_2 : FA Tryd.prog 7 2 2 := fa_of Tryd.underlying7 rfl rfl rfl ti4 rfl
theorem fa7_3 : FA Tryd.prog 7 3 3 := fa_of Tryd.underlying7 rfl rfl rfl ti6 rfl
theorem pl7 : PL Tryd.prog 7 #[(0, 1), (1, 1), (2, 1), (3, 1)] := pl_of Tryd.underlying7 (fun _ => by kernel_rfl)
theorem fa8_0 : FA Tryd.prog 8 0 0 := fa_of Tryd.underlying8 rfl rfl rfl ti2 rfl
theorem fa8_1 : FA Tryd.prog 8 1 1 := fa_of Tryd.underlying8 rfl rfl rfl ti3 rfl
theorem fa8_2 : FA Tryd.prog 8 2 2 := fa_of Tryd.underlying8 rfl rfl rfl ti4 rfl
theorem fa8_3 : FA Tryd.prog 8 3 3 := fa_of Tryd.underlying8 rfl rfl rfl ti6 rfl
theorem pl8 : PL Tryd.prog 8 #[(0, 1), (1, 1), (2, 1), (3, 1)] := pl_of Tryd.underlying8 (fun _ => by kernel_rfl)
theorem fa13_0 : FA Tryd.prog 13 0 0 := fa_of Tryd.underlying13 rfl rfl rfl ti9 rfl
theorem fa13_1 : FA Tryd.prog 13 1 1 := fa_of Tryd.underlying13 rfl rfl rfl ti12 rfl
theorem pl13 : PL Tryd.prog 13 #[(0, 1), (1, 1)] := pl_of Tryd.underlying13 (fun _ => by kernel_rfl)
theorem fa14_0 : FA Tryd.prog 14 0 0 := fa_of Tryd.underlying14 rfl rfl rfl ti9 rfl
theorem fa14_1 : FA Tryd.prog 14 1 1 := fa_of Tryd.underlying14 rfl rfl rfl ti12 rfl
theorem pl14 : PL Tryd.prog 14 #[(0, 1), (1, 1)] := pl_of Tryd.underlying14 (fun _ => by kernel_rfl)
theorem fa18_0 : FA Tryd.prog 18 0 0 := fa_of Tryd.underlying18 rfl rfl rfl ti17 rfl
theorem pl18 : PL Tryd.prog 18 #[(0, 1)] := pl_of Tryd.underlying18 (fun _ => by kernel_rfl)
theorem fa19_0 : FA Tryd.prog 19 0 0 := fa_of Tryd.underlying19 rfl rfl rfl ti17 rfl
theorem pl19 : PL Tryd.prog 19 #[(0, 1)] := pl_of Tryd.underlying19 (fun _ => by kernel_rfl)
theorem fa25_0 : FA Tryd.prog 25 0 0 := fa_of Tryd.underlying25 rfl rfl rfl ti24 rfl
theorem fa25_1 : FA Tryd.prog 25 1 1 := fa_of Tryd.underlying25 rfl rfl rfl ti3 rfl
theorem pl25 : PL Tryd.prog 25 #[(0, 1), (1, 1)] := pl_of Tryd.underlying25 (fun _ => by kernel_rfl)
theorem fa26_0 : FA Tryd.prog 26 0 0 := fa_of Tryd.underlying26 rfl rfl rfl ti24 rfl
theorem fa26_1 : FA Tryd.prog 26 1 1 := fa_of Tryd.underlying26 rfl rfl rfl ti3 rfl
theorem pl26 : PL Tryd.prog 26 #[(0, 1), (1, 1)] := pl_of Tryd.underlying26 (fun _ => by kernel_rfl)
theorem fa29_0 : FA Tryd.prog 29 0 0 := fa_of Tryd.underlying29 rfl rfl rfl ti3 rfl
theorem fa29_1 : FA Tryd.prog 29 1 1 := fa_of Tryd.underlying29 rfl rfl rfl ti9 rfl
theorem fa29_2 : FA Tryd.prog 29 2 2 := fa_of Tryd.underlying29 rfl rfl rfl ti2 rfl
theorem fa29_3 : FA Tryd.prog 29 3 3 := fa_of Tryd.underlying29 rfl rfl rfl ti3 rfl
theorem pl29 : PL Tryd.prog 29 #[(0, 1), (1, 1), (2, 1), (3, 1)] := pl_of Tryd.underlying29 (fun _ => by kernel_rfl)
theorem fa30_0 : FA Tryd.prog 30 0 0 := fa_of Tryd.underlying30 rfl rfl rfl ti3 rfl
theorem fa30_1 : FA Tryd.prog 30 1 1 := fa_of Tryd.underlying30 rfl rfl rfl ti9 rfl
theorem fa30_2 : FA Tryd.prog 30 2 2 := fa_of Tryd.underlying30 rfl rfl rfl ti2 rfl
theorem fa30_3 : FA Tryd.prog 30 3 3 := fa_of Tryd.underlying30 rfl rfl rfl ti3 rfl
theorem pl30 : PL Tryd.prog 30 #[(0, 1), (1, 1), (2, 1), (3, 1)] := pl_of Tryd.underlying30 (fun _ => by kernel_rfl)
theorem fa56_0 : FA Tryd.prog 56 0 0 := fa_of Tryd.underlying56 rfl rfl rfl ti9 rfl
theorem fa56_1 : FA Tryd.prog 56 1 1 := fa_of Tryd.underlying56 rfl rfl rfl ti9 rfl
theorem fa56_2 : FA Tryd.prog 56 2 2 := fa_of Tryd.underlying56 rfl rfl rfl ti38 rfl
theorem pl56 : PL Tryd.prog 56 #[(0, 1), (1, 1), (2, 1)] := pl_of Tryd.underlying56 (fun _ => by kernel_rfl)
theorem fa57_0 : FA Tryd.prog 57 0 0 := fa_of Tryd.underlying57 rfl rfl rfl ti9 rfl
theorem fa57_1 : FA Tryd.prog 57 1 1 := fa_of Tryd.underlying57 rfl rfl rfl ti9 rfl
theorem fa57_2 : FA Tryd.prog 57 2 2 := fa_of Tryd.underlying57 rfl rfl rfl ti38 rfl
theorem pl57 : PL Tryd.prog 57 #[(0, 1), (1, 1), (2, 1)] := pl_of Tryd.underlying57 (fun _ => by kernel_rfl)
theorem fa64_0 : FA Tryd.prog 64 0 0 := fa_of Tryd.underlying64 rfl rfl rfl ti9 rfl
theorem pl64 : PL Tryd.prog 64 #[(0, 1)] := pl_of Tryd.underlying64 (fun _ => by kernel_rfl)
theorem fa65_0 : FA Tryd.prog 65 0 0 := fa_of Tryd.underlying65 rfl rfl rfl ti9 rfl
theorem pl65 : PL Tryd.prog 65 #[(0, 1)] := pl_of Tryd.underlying65 (fun _ => by kernel_rfl)
theorem fa84_0 : FA Tryd.prog 84 0 0 := fa_of Tryd.underlying84 rfl rfl rfl ti17 rfl
theorem fa84_1 : FA Tryd.prog 84 1 1 := fa_of Tryd.underlying84 rfl rfl rfl ti17 rfl
theorem fa84_2 : FA Tryd.prog 84 2 2 := fa_of Tryd.underlying84 rfl rfl rfl ti17 rfl
theorem fa84_3 : FA Tryd.prog 84 3 3 := fa_of Tryd.underlying84 rfl rfl rfl ti9 rfl
theorem pl84 : PL Tryd.prog 84 #[(0, 1), (1, 1), (2, 1), (3, 1)] := pl_of Tryd.underlying84 (fun _ => by kernel_rfl)
theorem fa85_0 : FA Tryd.prog 85 0 0 := fa_of Tryd.underlying85 rfl rfl rfl ti17 rfl
theorem fa85_1 : FA Tryd.prog 85 1 1 := fa_of Tryd.underlying85 rfl rfl rfl ti17 rfl
theorem fa85_2 : FA Tryd.prog 85 2 2 := fa_of Tryd.underlying85 rfl rfl rfl ti17 rfl
theorem fa85_3 : FA Tryd.prog 85 3 3 := fa_of Tryd.underlying85 rfl rfl rfl ti9 rfl
theorem pl85 : PL Tryd.prog 85 #[(0, 1), (1, 1), (2, 1), (3, 1)] := pl_of Tryd.underlying85 (fun _ => by kernel_rfl)
theorem eh26 : Tryd.prog.stoodInHeld 26 = false := by kernel_rfl
theorem eg26 : Tryd.prog.eqGuardType Tryd.prog.depth 26 = false := by kernel_rfl
theorem eh30 : Tryd.prog.stoodInHeld 30 = false := by kernel_rfl
theorem eg30 : Tryd.prog.eqGuardType Tryd.prog.depth 30 = false := by kernel_rfl
end Go.Proofs.YtjbmnfilgedebaaDoor
