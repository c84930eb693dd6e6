/- Texts of Fl. -/
import Derived.Test.YtjbiabapnphheaaGreatDoorCXt
import Derived.Test.YtjbiabapnphheaaGreatDoorProg
import Derived.KernelRfl
import Derived.Shelf.Strconv.Itoa0
import Derived.Shelf.Strconv.Itoa1
import Derived.Shelf.LaysM
import Derived.Shelf.Strconv.Itoa2
import Derived.Shelf.Strconv.Itoa3
import Derived.Shelf.Strconv.ParseIntEmpty
import Derived.Shelf.Strconv.Clone
import Derived.Shelf.Strconv.SyntaxError
import Derived.Shelf.LaysC
import Derived.Shelf.Strconv.ToError
import Derived.Shelf.Strconv.Lower
import Derived.Shelf.Strconv.ParseUint10
import Derived.Shelf.Strconv.ParseUint10Empty
import Derived.Shelf.Strconv.ParseUint10Any
import Derived.Shelf.Strconv.ParseInt10
import Derived.Shelf.Strconv.RangeError
import Derived.Shelf.Strconv.ToErrorRange
import Derived.Shelf.Strconv.ParseUintEmpty
import Derived.Shelf.Strconv.ParseUint10b64
import Derived.Shelf.Strconv.ParseUint10b32
import Derived.Shelf.Strconv.ParseUint10b16
import Derived.Shelf.Strconv.ParseUint10b8
import Derived.Shelf.Strconv.ParseUint10At
import Derived.Shelf.Strconv.ParseInt10At64
import Derived.Shelf.Strconv.ParseInt10At32
import Derived.Shelf.Strconv.ParseInt10At16
import Derived.Shelf.Strconv.ParseInt10At8
import Derived.Shelf.Strconv.ParseInt10All
import Derived.Shelf.Strconv.ParseIntPublic10
import Derived.Shelf.Strings.Search1
import Derived.Shelf.Strings.Search2
import Derived.Shelf.Strings.Search3
import Derived.Shelf.Strings.Shaped
import Derived.Shelf.Slices.Turned
import Derived.Ground.Names2Prog
import Derived.Shelf.Slices.Delete
import Derived.Shelf.Slices.Cells
import Derived.Shelf.Slices.Empties
import Derived.Test.YtjbiabapnphheaaGreatDoorCMd
import Derived.Test.YtjbiabapnphheaaGreatDoorCXu
import Derived.Lib.SlicesS
set_option linter.unusedSimpArgs false
set_option linter.unusedVariables false
set_option linter.unusedSectionVars false
namespace Go.Proofs.YtjbiabapnphheaaGreatDoor
open Go.Wk Go.Xt Tryz
instance isfn9 : IsFn prog 9 := isf func9
instance isfn11 : IsFn prog 11 := isf func11
instance isfn16 : IsFn prog 16 := isf func16
instance isfn17 : IsFn prog 17 := isf func17
instance isfn18 : IsFn prog 18 := isf func18
instance isfn19 : IsFn prog 19 := isf func19
instance isfn20 : IsFn prog 20 := isf func20
instance isfn21 : IsFn prog 21 := isf func21
instance isfn30 : IsFn prog 30 := isf func30
instance isfn31 : IsFn prog 31 := isf func31
instance isfn32 : IsFn prog 32 := isf func32
instance isfn33 : IsFn prog 33 := isf func33
instance isfn35 : IsFn prog 35 := isf func35
instance isfn36 : IsFn prog 36 := isf func36
instance isfn37 : IsFn prog 37 := isf func37
instance isfn38 : IsFn prog 38 := isf func38
instance isfn39 : IsFn prog 39 := isf func39
instance isfn40 : IsFn prog 40 := isf func40
instance isfn44 : IsFn prog 44 := isf func44
instance isfn45 : IsFn prog 45 := isf func45
instance isfn46 : IsFn prog 46 := isf func46
instance isfn47 : IsFn prog 47 := isf func47
instance isfn48 : IsFn prog 48 := isf func48
instance isfn49 : IsFn prog 49 := isf func49
instance isfn50 : IsFn prog 50 := isf func50
instance isfn51 : IsFn prog 51 := isf func51
instance isfn52 : IsFn prog 52 := isf func52
instance isfn53 : IsFn prog 53 := isf func53
instance isfn54 : IsFn prog 54 := isf func54
instance isfn55 : IsFn prog 55 := isf func55
instance isfn56 : IsFn prog 56 := isf func56
instance isfn57 : IsFn prog 57 := isf func57
instance isfn58 : IsFn prog 58 := isf func58
instance isfn59 : IsFn prog 59 := isf func59
instance isfn60 : IsFn prog 60 := isf func60
instance isfn61 : IsFn prog 61 := isf func61
instance isfn62 : IsFn prog 62 := isf func62
instance isfn63 : IsFn prog 63 := isf func63
instance isfn64 : IsFn prog 64 := isf func64
instance isfn65 : IsFn prog 65 := isf func65
instance isfn66 : IsFn prog 66 := isf func66
instance isfn67 : IsFn prog 67 := isf func67
instance isfn68 : IsFn prog 68 := isf func68
instance isfn71 : IsFn prog 71 := isf func71
instance isfn72 : IsFn prog 72 := isf func72
instance isfn73 : IsFn prog 73 := isf func73
instance isfn74 : IsFn prog 74 := isf func74
instance isfn75 : IsFn prog 75 := isf func75
instance isfn76 : IsFn prog 76 := isf func76
instance isfn77 : IsFn prog 77 := isf func77
instance isfn78 : IsFn prog 78 := isf func78
instance isfn79 : IsFn prog 79 := isf func79
instance isfn80 : IsFn prog 80 := isf func80
instance isfn81 : IsFn prog 81 := isf func81
instance isfn82 : IsFn prog 82 := isf func82
instance isfn83 : IsFn prog 83 := isf func83
instance isfn84 : IsFn prog 84 := isf func84
instance isfn90 : IsFn prog 90 := isf func90
instance isfn91 : IsFn prog 91 := isf func91
instance isfn92 : IsFn prog 92 := isf func92
instance isfn93 : IsFn prog 93 := isf func93
instance isfn94 : IsFn prog 94 := isf func94
instance isfn95 : IsFn prog 95 := isf func95
instance isfn96 : IsFn prog 96 := isf func96
instance isfn97 : IsFn prog 97 := isf func97
instance isfn98 : IsFn prog 98 := isf func98
instance isfn99 : IsFn prog 99 := isf func99
instance isfn106 : IsFn prog 106 := isf func106
instance isfn107 : IsFn prog 107 := isf func107
instance isfn108 : IsFn prog 108 := isf func108
instance isfn109 : IsFn prog 109 := isf func109
instance isfn110 : IsFn prog 110 := isf func110
instance isfn111 : IsFn prog 111 := isf func111
instance isfn114 : IsFn prog 114 := isf func114
instance isfn115 : IsFn prog 115 := isf func115
instance isfn116 : IsFn prog 116 := isf func116
instance isfn122 : IsFn prog 122 := isf func122
instance isfn129 : IsFn prog 129 := isf func129
instance isfn130 : IsFn prog 130 := isf func130
instance ti2 : TI prog 2 false [.int .i64 0] 1 8 := tj (z := .int .i64 0) underlying2
instance ti3 : TI prog 3 false [.int .i64 0] 1 8 := tj (z := .int .i64 0) underlying3
instance ti4 : TI prog 4 false [.bool false] 1 1 := tj (z := .bool false) underlying4
instance ti9 : TI prog 9 false [S []] 1 16 := tj (z := S []) underlying9
instance ti22 : TI prog 22 false [.slice none 0 0] 1 24 := tj (z := .slice none 0 0) underlying22
instance ti25 : TI prog 25 false [.int .i64 0] 1 8 := tj (z := .int .i64 0) underlying25
instance ti27 : TI prog 27 true [.int .i64 0, .int .i64 0] 2 16 := tj (z := .agg #[.int .i64 0, .int .i64 0]) underlying27
instance ti31 : TI prog 31 true [.int .i64 0, S []] 2 24 := tj (z := .agg #[.int .i64 0, S []]) underlying31
instance ti32 : TI prog 32 false [.slice none 0 0] 1 24 := tj (z := .slice none 0 0) underlying32
instance ti33 : TI prog 33 false [.slice none 0 0] 1 24 := tj (z := .slice none 0 0) underlying33
instance ti35 : TI prog 35 true [.int .i64 0, S [], .int .i64 0, S [], .int .i64 0, S [], .int .i64 0, .slice none 0 0, .slice none 0 0] 9 128 := tj (z := .agg #[.int .i64 0, S [], .int .i64 0, S [], .int .i64 0, S [], .int .i64 0, .slice none 0 0, .slice none 0 0]) underlying35
instance ti37 : TI prog 37 true [S [], S [], S []] 3 48 := tj (z := .agg #[S [], S [], S []]) underlying37
instance ti38 : TI prog 38 false [.slice none 0 0] 1 24 := tj (z := .slice none 0 0) underlying38
instance ti50 : TI prog 50 false [.map none] 1 8 := tj (z := .map none) underlying50
instance ti53 : TI prog 53 false [.slice none 0 0] 1 24 := tj (z := .slice none 0 0) underlying53
instance ti54 : TI prog 54 false [.slice none 0 0] 1 24 := tj (z := .slice none 0 0) underlying54
instance ti56 : TI prog 56 true [.slice none 0 0, .slice none 0 0] 2 48 := tj (z := .agg #[.slice none 0 0, .slice none 0 0]) underlying56
instance ti60 : TI prog 60 true [.int .i64 0, .int .i64 0] 2 16 := tj (z := .agg #[.int .i64 0, .int .i64 0]) underlying60
instance ti61 : TI prog 61 false [.slice none 0 0] 1 24 := tj (z := .slice none 0 0) underlying61
instance ti62 : TI prog 62 false [.slice none 0 0] 1 24 := tj (z := .slice none 0 0) underlying62
instance ti64 : TI prog 64 true [.int .i64 0, .int .i64 0, .slice none 0 0, .int .i64 0, .int .i64 0, .slice none 0 0] 6 80 := tj (z := .agg #[.int .i64 0, .int .i64 0, .slice none 0 0, .int .i64 0, .int .i64 0, .slice none 0 0]) underlying64
instance ti67 : TI prog 67 false [.pointer none] 1 8 := tj (z := .pointer none) underlying67
instance ti72 : TI prog 72 true [.slice none 0 0, .slice none 0 0, .slice none 0 0] 3 72 := tj (z := .agg #[.slice none 0 0, .slice none 0 0, .slice none 0 0]) underlying72
instance ti74 : TI prog 74 false [.pointer none] 1 8 := tj (z := .pointer none) underlying74
instance ti75 : TI prog 75 false [.pointer none] 1 8 := tj (z := .pointer none) underlying75
instance ti76 : TI prog 76 true [.slice none 0 0, .pointer none] 2 32 := tj (z := .agg #[.slice none 0 0, .pointer none]) underlying76
instance ti82 : TI prog 82 true [S [], .int .i64 0, S []] 3 40 := tj (z := .agg #[S [], .int .i64 0, S []]) underlying82
instance ti90 : TI prog 90 true [.int .i64 0, .int .i64 0, .int .i64 0] 3 24 := tj (z := .agg #[.int .i64 0, .int .i64 0, .int .i64 0]) underlying90
instance ti91 : TI prog 91 false [.pointer none] 1 8 := tj (z := .pointer none) underlying91
instance ti92 : TI prog 92 false [.map none] 1 8 := tj (z := .map none) underlying92
instance ti94 : TI prog 94 true [.map none, .map none, .map none] 3 24 := tj (z := .agg #[.map none, .map none, .map none]) underlying94
instance ti97 : TI prog 97 false [.slice none 0 0] 1 24 := tj (z := .slice none 0 0) underlying97
instance ti102 : TI prog 102 false [.pointer none] 1 8 := tj (z := .pointer none) underlying102
instance ti104 : TI prog 104 true [.slice none 0 0, .int .i64 0, .int .i64 0] 3 40 := tj (z := .agg #[.slice none 0 0, .int .i64 0, .int .i64 0]) underlying104
instance ti109 : TI prog 109 true [.slice none 0 0, .map none] 2 32 := tj (z := .agg #[.slice none 0 0, .map none]) underlying109
instance ti111 : TI prog 111 false [.nilFunc] 1 8 := tj (z := .nilFunc) underlying111
instance ti116 : TI prog 116 false [.slice none 0 0] 1 24 := tj (z := .slice none 0 0) underlying116
instance ti118 : TI prog 118 true [.int .i64 0, .int .i64 0, S [], .slice none 0 0] 4 56 := tj (z := .agg #[.int .i64 0, .int .i64 0, S [], .slice none 0 0]) underlying118
instance ti120 : TI prog 120 true [.int .i64 0, S [], .int .i64 0, .int .i64 0, S [], .slice none 0 0, .slice none 0 0, .slice none 0 0] 8 128 := tj (z := .agg #[.int .i64 0, S [], .int .i64 0, .int .i64 0, S [], .slice none 0 0, .slice none 0 0, .slice none 0 0]) underlying120
instance ti124 : TI prog 124 false [.slice none 0 0] 1 24 := tj (z := .slice none 0 0) underlying124
instance ti126 : TI prog 126 true [.pointer none, .int .i64 0, .int .i64 0, .slice none 0 0, .int .i64 0, .int .i64 0, .slice none 0 0, .slice none 0 0] 8 112 := tj (z := .agg #[.pointer none, .int .i64 0, .int .i64 0, .slice none 0 0, .int .i64 0, .int .i64 0, .slice none 0 0, .slice none 0 0]) underlying126
instance ti131 : TI prog 131 true [.int .i64 0, S [], .int .i64 0, .int .i64 0] 4 40 := tj (z := .agg #[.int .i64 0, S [], .int .i64 0, .int .i64 0]) underlying131
instance ti147 : TI prog 147 true [.int .i64 0] 1 8 := tj (z := .agg #[.int .i64 0]) underlying147
instance ti150 : TI prog 150 false [.pointer none] 1 8 := tj (z := .pointer none) underlying150
instance ti151 : TI prog 151 false [.map none] 1 8 := tj (z := .map none) underlying151
instance ti152 : TI prog 152 false [.slice none 0 0] 1 24 := tj (z := .slice none 0 0) underlying152
instance ti154 : TI prog 154 true [.pointer none, .pointer none, .slice none 0 0] 3 40 := tj (z := .agg #[.pointer none, .pointer none, .slice none 0 0]) underlying154
instance ti205 : TI prog 205 true [.map none, .bool false] 2 16 := tj (z := .agg #[.map none, .bool false]) underlying205
theorem eg31 : prog.eqGuardType prog.depth 31 = false := by kernel_rfl
theorem eg60 : prog.eqGuardType prog.depth 60 = false := by kernel_rfl
theorem eh31 : prog.stoodInHeld 31 = false := by kernel_rfl
theorem eh60 : prog.stoodInHeld 60 = false := by kernel_rfl
instance fa104_0 : FA prog 104 0 0 := fa_of underlying104 rfl rfl rfl ti97 rfl
instance fa104_1 : FA prog 104 1 1 := fa_of underlying104 rfl rfl rfl ti3 rfl
instance fa104_2 : FA prog 104 2 2 := fa_of underlying104 rfl rfl rfl ti3 rfl
instance fa109_1 : FA prog 109 1 1 := fa_of underlying109 rfl rfl rfl ti92 rfl
instance fa118_0 : FA prog 118 0 0 := fa_of underlying118 rfl rfl rfl ti3 rfl
instance fa118_1 : FA prog 118 1 1 := fa_of underlying118 rfl rfl rfl ti2 rfl
instance fa118_2 : FA prog 118 2 2 := fa_of underlying118 rfl rfl rfl ti9 rfl
instance fa118_3 : FA prog 118 3 3 := fa_of underlying118 rfl rfl rfl ti116 rfl
instance fa120_0 : FA prog 120 0 0 := fa_of underlying120 rfl rfl rfl ti3 rfl
instance fa120_1 : FA prog 120 1 1 := fa_of underlying120 rfl rfl rfl ti9 rfl
instance fa120_2 : FA prog 120 2 2 := fa_of underlying120 rfl rfl rfl ti118 rfl
instance fa120_3 : FA prog 120 3 6 := fa_of underlying120 rfl rfl rfl ti33 rfl
instance fa120_4 : FA prog 120 4 7 := fa_of underlying120 rfl rfl rfl ti33 rfl
instance fa126_0 : FA prog 126 0 0 := fa_of underlying126 rfl rfl rfl ti91 rfl
instance fa126_1 : FA prog 126 1 1 := fa_of underlying126 rfl rfl rfl ti64 rfl
instance fa126_2 : FA prog 126 2 7 := fa_of underlying126 rfl rfl rfl ti124 rfl
instance fa131_0 : FA prog 131 0 0 := fa_of underlying131 rfl rfl rfl ti3 rfl
instance fa131_1 : FA prog 131 1 1 := fa_of underlying131 rfl rfl rfl ti9 rfl
instance fa131_2 : FA prog 131 2 2 := fa_of underlying131 rfl rfl rfl ti2 rfl
instance fa131_3 : FA prog 131 3 3 := fa_of underlying131 rfl rfl rfl ti3 rfl
instance fa147_0 : FA prog 147 0 0 := fa_of underlying147 rfl rfl rfl ti3 rfl
instance fa154_0 : FA prog 154 0 0 := fa_of underlying154 rfl rfl rfl ti67 rfl
instance fa154_1 : FA prog 154 1 1 := fa_of underlying154 rfl rfl rfl ti74 rfl
instance fa154_2 : FA prog 154 2 2 := fa_of underlying154 rfl rfl rfl ti152 rfl
instance fa205_0 : FA prog 205 0 0 := fa_of underlying205 rfl rfl rfl ti50 rfl
instance fa205_1 : FA prog 205 1 1 := fa_of underlying205 rfl rfl rfl ti4 rfl
instance fa27_0 : FA prog 27 0 0 := fa_of underlying27 rfl rfl rfl ti25 rfl
instance fa31_0 : FA prog 31 0 0 := fa_of underlying31 rfl rfl rfl ti3 rfl
instance fa31_1 : FA prog 31 1 1 := fa_of underlying31 rfl rfl rfl ti9 rfl
instance fa35_0 : FA prog 35 0 0 := fa_of underlying35 rfl rfl rfl ti3 rfl
instance fa35_1 : FA prog 35 1 1 := fa_of underlying35 rfl rfl rfl ti9 rfl
instance fa35_2 : FA prog 35 2 2 := fa_of underlying35 rfl rfl rfl ti31 rfl
instance fa35_3 : FA prog 35 3 4 := fa_of underlying35 rfl rfl rfl ti31 rfl
instance fa35_4 : FA prog 35 4 6 := fa_of underlying35 rfl rfl rfl ti3 rfl
instance fa35_5 : FA prog 35 5 7 := fa_of underlying35 rfl rfl rfl ti32 rfl
instance fa35_6 : FA prog 35 6 8 := fa_of underlying35 rfl rfl rfl ti33 rfl
instance fa37_1 : FA prog 37 1 1 := fa_of underlying37 rfl rfl rfl ti9 rfl
instance fa37_2 : FA prog 37 2 2 := fa_of underlying37 rfl rfl rfl ti9 rfl
instance fa56_0 : FA prog 56 0 0 := fa_of underlying56 rfl rfl rfl ti53 rfl
instance fa56_1 : FA prog 56 1 1 := fa_of underlying56 rfl rfl rfl ti54 rfl
instance fa64_0 : FA prog 64 0 0 := fa_of underlying64 rfl rfl rfl ti3 rfl
instance fa64_1 : FA prog 64 1 1 := fa_of underlying64 rfl rfl rfl ti3 rfl
instance fa64_2 : FA prog 64 2 2 := fa_of underlying64 rfl rfl rfl ti61 rfl
instance fa64_3 : FA prog 64 3 3 := fa_of underlying64 rfl rfl rfl ti3 rfl
instance fa64_4 : FA prog 64 4 4 := fa_of underlying64 rfl rfl rfl ti3 rfl
instance fa64_5 : FA prog 64 5 5 := fa_of underlying64 rfl rfl rfl ti62 rfl
instance fa72_0 : FA prog 72 0 0 := fa_of underlying72 rfl rfl rfl ti38 rfl
instance fa72_1 : FA prog 72 1 1 := fa_of underlying72 rfl rfl rfl ti38 rfl
instance fa72_2 : FA prog 72 2 2 := fa_of underlying72 rfl rfl rfl ti38 rfl
instance fa76_0 : FA prog 76 0 0 := fa_of underlying76 rfl rfl rfl ti38 rfl
instance fa76_1 : FA prog 76 1 1 := fa_of underlying76 rfl rfl rfl ti75 rfl
instance fa82_0 : FA prog 82 0 0 := fa_of underlying82 rfl rfl rfl ti9 rfl
instance fa82_1 : FA prog 82 1 1 := fa_of underlying82 rfl rfl rfl ti31 rfl
instance fa90_0 : FA prog 90 0 0 := fa_of underlying90 rfl rfl rfl ti3 rfl
instance fa90_1 : FA prog 90 1 1 := fa_of underlying90 rfl rfl rfl ti3 rfl
instance fa94_0 : FA prog 94 0 0 := fa_of underlying94 rfl rfl rfl ti50 rfl
instance fa94_1 : FA prog 94 1 1 := fa_of underlying94 rfl rfl rfl ti50 rfl
instance fa94_2 : FA prog 94 2 2 := fa_of underlying94 rfl rfl rfl ti92 rfl
theorem pl104 : PL prog 104 #[(0, 1), (1, 1), (2, 1)] := pl_of underlying104 (fun _ => by kernel_rfl)
theorem pl109 : PL prog 109 #[(0, 1), (1, 1)] := pl_of underlying109 (fun _ => by kernel_rfl)
theorem pl118 : PL prog 118 #[(0, 1), (1, 1), (2, 1), (3, 1)] := pl_of underlying118 (fun _ => by kernel_rfl)
theorem pl120 : PL prog 120 #[(0, 1), (1, 1), (2, 4), (6, 1), (7, 1)] := pl_of underlying120 (fun _ => by kernel_rfl)
theorem pl126 : PL prog 126 #[(0, 1), (1, 6), (7, 1)] := pl_of underlying126 (fun _ => by kernel_rfl)
theorem pl131 : PL prog 131 #[(0, 1), (1, 1), (2, 1), (3, 1)] := pl_of underlying131 (fun _ => by kernel_rfl)
theorem pl147 : PL prog 147 #[(0, 1)] := pl_of underlying147 (fun _ => by kernel_rfl)
theorem pl154 : PL prog 154 #[(0, 1), (1, 1), (2, 1)] := pl_of underlying154 (fun _ => by kernel_rfl)
theorem pl205 : PL prog 205 #[(0, 1), (1, 1)] := pl_of underlying205 (fun _ => by kernel_rfl)
theorem pl27 : PL prog 27 #[(0, 1), (1, 1)] := pl_of underlying27 (fun _ => by kernel_rfl)
theorem pl31 : PL prog 31 #[(0, 1), (1, 1)] := pl_of underlying31 (fun _ => by kernel_rfl)
theorem pl35 : PL prog 35 #[(0, 1), (1, 1), (2, 2), (4, 2), (6, 1), (7, 1), (8, 1)] := pl_of underlying35 (fun _ => by kernel_rfl)
theorem pl37 : PL prog 37 #[(0, 1), (1, 1), (2, 1)] := pl_of underlying37 (fun _ => by kernel_rfl)
theorem pl56 : PL prog 56 #[(0, 1), (1, 1)] := pl_of underlying56 (fun _ => by kernel_rfl)
theorem pl60 : PL prog 60 #[(0, 1), (1, 1)] := pl_of underlying60 (fun _ => by kernel_rfl)
theorem pl64 : PL prog 64 #[(0, 1), (1, 1), (2, 1), (3, 1), (4, 1), (5, 1)] := pl_of underlying64 (fun _ => by kernel_rfl)
theorem pl76 : PL prog 76 #[(0, 1), (1, 1)] := pl_of underlying76 (fun _ => by kernel_rfl)
theorem pl82 : PL prog 82 #[(0, 1), (1, 2)] := pl_of underlying82 (fun _ => by kernel_rfl)
theorem pl90 : PL prog 90 #[(0, 1), (1, 1), (2, 1)] := pl_of underlying90 (fun _ => by kernel_rfl)
theorem pl94 : PL prog 94 #[(0, 1), (1, 1), (2, 1)] := pl_of underlying94 (fun _ => by kernel_rfl)
theorem zv3 : ∀ w, (zeroValue 3).run prog w = .ok (.int .i64 0) w := zv_of (by kernel_rfl)
theorem zv31 : ∀ w, (zeroValue 31).run prog w = .ok (.agg #[.int .i64 0, S []]) w := zv_of (by kernel_rfl)
theorem zv72 : ∀ w, (zeroValue 72).run prog w = .ok (.agg #[.slice none 0 0, .slice none 0 0, .slice none 0 0]) w := zv_of (by kernel_rfl)
theorem zv74 : ∀ w, (zeroValue 74).run prog w = .ok (.pointer none) w := zv_of (by kernel_rfl)
end Go.Proofs.YtjbiabapnphheaaGreatDoor
namespace Go.Proofs
open Go.Shelf
def Tryz.laysC174_ren : Go.Shelf.Ren := ⟨fun | 174 => 52 | 247 => 69 | 245 => 70 | 287 => 85 | 279 => 86 | 280 => 87 | 281 => 88 | 282 => 89 | 321 => 100 | 322 => 101 | 316 => 102 | 171 => 104 | 205 => 103 | 243 => 112 | 246 => 117 | 283 => 123 | 284 => 124 | 285 => 125 | 286 => 126 | 129 => 132 | 317 => 131 | 318 => 133 | 319 => 134 | 320 => 135 | 337 => 136 | 338 => 137 | n => n, fun | 9 => 9 | 3 => 3 | 2 => 2 | 75 => 135 | 85 => 136 | 4 => 4 | 167 => 170 | 5 => 5 | 53 => 171 | 175 => 172 | 46 => 174 | 168 => 175 | 37 => 187 | 0 => 0 | 210 => 189 | 21 => 21 | 127 => 198 | 145 => 201 | 143 => 199 | 171 => 209 | 173 => 212 | 212 => 220 | 51 => 214 | 20 => 20 | 213 => 221 | 232 => 225 | 233 => 226 | 80 => 139 | n => n, fun | 15 => 0 | 16 => 1 | 17 => 3 | 18 => 4 | 19 => 5 | n => n⟩
theorem Tryz.laysC174 : Go.Proofs.LaysC.n174 Tryz.prog Tryz.laysC174_ren := {
  mixed := by kernel_rfl
  f129 := Tryz.func132.trans (congrArg some (by kernel_rfl))
  f171 := Tryz.func104.trans (congrArg some (by kernel_rfl))
  f174 := Tryz.func52.trans (congrArg some (by kernel_rfl))
  f205 := Tryz.func103.trans (congrArg some (by kernel_rfl))
  f243 := Tryz.func112.trans (congrArg some (by kernel_rfl))
  f245 := Tryz.func70.trans (congrArg some (by kernel_rfl))
  f246 := Tryz.func117.trans (congrArg some (by kernel_rfl))
  f247 := Tryz.func69.trans (congrArg some (by kernel_rfl))
  f279 := Tryz.func86.trans (congrArg some (by kernel_rfl))
  f280 := Tryz.func87.trans (congrArg some (by kernel_rfl))
  f281 := Tryz.func88.trans (congrArg some (by kernel_rfl))
  f282 := Tryz.func89.trans (congrArg some (by kernel_rfl))
  f283 := Tryz.func123.trans (congrArg some (by kernel_rfl))
  f284 := Tryz.func124.trans (congrArg some (by kernel_rfl))
  f285 := Tryz.func125.trans (congrArg some (by kernel_rfl))
  f286 := Tryz.func126.trans (congrArg some (by kernel_rfl))
  f287 := Tryz.func85.trans (congrArg some (by kernel_rfl))
  f316 := Tryz.func102.trans (congrArg some (by kernel_rfl))
  f317 := Tryz.func131.trans (congrArg some (by kernel_rfl))
  f318 := Tryz.func133.trans (congrArg some (by kernel_rfl))
  f319 := Tryz.func134.trans (congrArg some (by kernel_rfl))
  f320 := Tryz.func135.trans (congrArg some (by kernel_rfl))
  f321 := Tryz.func100.trans (congrArg some (by kernel_rfl))
  f322 := Tryz.func101.trans (congrArg some (by kernel_rfl))
  f337 := Tryz.func136.trans (congrArg some (by kernel_rfl))
  f338 := Tryz.func137.trans (congrArg some (by kernel_rfl))
  t0 := Tryz.underlying0
  a0 := Tryz.isAgg0
  z0 := Tryz.sizeOf0
  v0 := Tryz.zeroValue0
  t2 := Tryz.underlying2
  a2 := Tryz.isAgg2
  z2 := Tryz.sizeOf2
  v2 := Tryz.zeroValue2
  t3 := Tryz.underlying3
  a3 := Tryz.isAgg3
  z3 := Tryz.sizeOf3
  v3 := Tryz.zeroValue3
  t4 := Tryz.underlying4
  a4 := Tryz.isAgg4
  z4 := Tryz.sizeOf4
  v4 := Tryz.zeroValue4
  t5 := Tryz.underlying5
  a5 := Tryz.isAgg5
  z5 := Tryz.sizeOf5
  v5 := Tryz.zeroValue5
  t9 := Tryz.underlying9
  a9 := Tryz.isAgg9
  z9 := Tryz.sizeOf9
  v9 := Tryz.zeroValue9
  t20 := Tryz.underlying20
  a20 := Tryz.isAgg20
  z20 := Tryz.sizeOf20
  v20 := Tryz.zeroValue20
  t21 := Tryz.underlying21
  a21 := Tryz.isAgg21
  z21 := Tryz.sizeOf21
  v21 := Tryz.zeroValue21
  t37 := Tryz.underlying187
  a37 := Tryz.isAgg187
  z37 := Tryz.sizeOf187
  v37 := Tryz.zeroValue187
  t46 := Tryz.underlying174
  a46 := Tryz.isAgg174
  z46 := Tryz.sizeOf174
  v46 := Tryz.zeroValue174
  t51 := Tryz.underlying214
  a51 := Tryz.isAgg214
  z51 := Tryz.sizeOf214
  v51 := Tryz.zeroValue214
  t53 := Tryz.underlying171
  a53 := Tryz.isAgg171
  z53 := Tryz.sizeOf171
  v53 := Tryz.zeroValue171
  t75 := Tryz.underlying135
  a75 := Tryz.isAgg135
  z75 := Tryz.sizeOf135
  v75 := Tryz.zeroValue135
  t85 := Tryz.underlying136
  a85 := Tryz.isAgg136
  z85 := Tryz.sizeOf136
  v85 := Tryz.zeroValue136
  t127 := Tryz.underlying198
  a127 := Tryz.isAgg198
  z127 := Tryz.sizeOf198
  v127 := Tryz.zeroValue198
  t143 := Tryz.underlying199
  a143 := Tryz.isAgg199
  z143 := Tryz.sizeOf199
  v143 := Tryz.zeroValue199
  t145 := Tryz.underlying201
  a145 := Tryz.isAgg201
  z145 := Tryz.sizeOf201
  v145 := Tryz.zeroValue201
  t167 := Tryz.underlying170
  a167 := Tryz.isAgg170
  z167 := Tryz.sizeOf170
  v167 := Tryz.zeroValue170
  t168 := Tryz.underlying175
  a168 := Tryz.isAgg175
  z168 := Tryz.sizeOf175
  v168 := Tryz.zeroValue175
  t171 := Tryz.underlying209
  a171 := Tryz.isAgg209
  z171 := Tryz.sizeOf209
  v171 := Tryz.zeroValue209
  t173 := Tryz.underlying212
  a173 := Tryz.isAgg212
  z173 := Tryz.sizeOf212
  v173 := Tryz.zeroValue212
  t175 := Tryz.underlying172
  a175 := Tryz.isAgg172
  z175 := Tryz.sizeOf172
  v175 := Tryz.zeroValue172
  t210 := Tryz.underlying189
  a210 := Tryz.isAgg189
  z210 := Tryz.sizeOf189
  v210 := Tryz.zeroValue189
  t212 := Tryz.underlying220
  a212 := Tryz.isAgg220
  z212 := Tryz.sizeOf220
  v212 := Tryz.zeroValue220
  t213 := Tryz.underlying221
  a213 := Tryz.isAgg221
  z213 := Tryz.sizeOf221
  t232 := Tryz.underlying225
  a232 := Tryz.isAgg225
  z232 := Tryz.sizeOf225
  v232 := Tryz.zeroValue225
  t233 := Tryz.underlying226
  a233 := Tryz.isAgg226
  z233 := Tryz.sizeOf226
  v233 := Tryz.zeroValue226
  g15 := by kernel_rfl
  g16 := by kernel_rfl
  g17 := by kernel_rfl
  g18 := by kernel_rfl
  g19 := by kernel_rfl
  t80 := Tryz.underlying139
  a80 := Tryz.isAgg139
  z80 := Tryz.sizeOf139
  v80 := Tryz.zeroValue139
  i0 := by kernel_rfl
  i2 := by kernel_rfl
  i3 := by kernel_rfl
  i4 := by kernel_rfl
  i5 := by kernel_rfl
  i9 := by kernel_rfl
  i20 := by kernel_rfl
  i21 := by kernel_rfl
  i37 := by kernel_rfl
  i46 := by kernel_rfl
  i51 := by kernel_rfl
  i53 := by kernel_rfl
  i75 := by kernel_rfl
  i80 := by kernel_rfl
  i85 := by kernel_rfl
  i127 := by kernel_rfl
  i143 := by kernel_rfl
  i145 := by kernel_rfl
  i167 := by kernel_rfl
  i168 := by kernel_rfl
  i171 := by kernel_rfl
  i173 := by kernel_rfl
  i175 := by kernel_rfl
  i210 := by kernel_rfl
  i212 := by kernel_rfl
  i232 := by kernel_rfl
  i233 := by kernel_rfl
  m15 := by kernel_rfl
  m16 := by kernel_rfl
  m17 := by kernel_rfl
  m18 := by kernel_rfl
  m19 := by kernel_rfl
  c0 := by kernel_rfl
  c2 := by kernel_rfl
  c3 := by kernel_rfl
  c4 := by kernel_rfl
  c5 := by kernel_rfl
  c9 := by kernel_rfl
  c20 := by kernel_rfl
  c21 := by kernel_rfl
  c37 := by kernel_rfl
  c46 := by kernel_rfl
  c51 := by kernel_rfl
  c53 := by kernel_rfl
  c75 := by kernel_rfl
  c80 := by kernel_rfl
  c85 := by kernel_rfl
  c127 := by kernel_rfl
  c143 := by kernel_rfl
  c145 := by kernel_rfl
  c167 := by kernel_rfl
  c168 := by kernel_rfl
  c171 := by kernel_rfl
  c173 := by kernel_rfl
  c175 := by kernel_rfl
  c210 := by kernel_rfl
  c212 := by kernel_rfl
  c213 := by kernel_rfl
  c232 := by kernel_rfl
  c233 := by kernel_rfl }
open Go.RowKit in
theorem Tryz.strconv_ParseInt_10_at64_ok (s : ByteArray) (hmax : s.size ≤ 9223372036854775806) (v : Int) (h : Lib.parseIntB 64 s.data.toList = .ok v) (w : World) :
    Calls Tryz.prog 52 #[.string s, .int .i64 10, .int .i64 64] w fun e w' => e = .returned (.tuple #[.int .i64 v, .nilIface]) ∧ (w' = w ∨ ∃ t, w' = Lib.bytesWorld w 5 t) := Any.strconv_ParseInt_10_at64_ok Tryz.laysC174 s hmax v h w
def Tryz.lays144_ren : Go.Shelf.Ren := ⟨fun | 144 => 91 | 143 => 105 | 219 => 113 | 217 => 118 | 225 => 119 | 224 => 120 | 267 => 121 | 266 => 127 | 314 => 128 | n => n, fun | 9 => 9 | 4 => 4 | 3 => 3 | 5 => 5 | 46 => 174 | 146 => 215 | 51 => 214 | n => n, fun | 1 => 2 | n => n⟩
theorem Tryz.lays144 : Go.Proofs.Lays.n144 Tryz.prog Tryz.lays144_ren := {
  mixed := by kernel_rfl
  f143 := Tryz.func105.trans (congrArg some (by kernel_rfl))
  f144 := Tryz.func91.trans (congrArg some (by kernel_rfl))
  f217 := Tryz.func118.trans (congrArg some (by kernel_rfl))
  f219 := Tryz.func113.trans (congrArg some (by kernel_rfl))
  f224 := Tryz.func120.trans (congrArg some (by kernel_rfl))
  f225 := Tryz.func119.trans (congrArg some (by kernel_rfl))
  f266 := Tryz.func127.trans (congrArg some (by kernel_rfl))
  f267 := Tryz.func121.trans (congrArg some (by kernel_rfl))
  f314 := Tryz.func128.trans (congrArg some (by kernel_rfl))
  t3 := Tryz.underlying3
  a3 := Tryz.isAgg3
  z3 := Tryz.sizeOf3
  v3 := Tryz.zeroValue3
  t4 := Tryz.underlying4
  a4 := Tryz.isAgg4
  z4 := Tryz.sizeOf4
  v4 := Tryz.zeroValue4
  t5 := Tryz.underlying5
  a5 := Tryz.isAgg5
  z5 := Tryz.sizeOf5
  v5 := Tryz.zeroValue5
  t9 := Tryz.underlying9
  a9 := Tryz.isAgg9
  z9 := Tryz.sizeOf9
  v9 := Tryz.zeroValue9
  t46 := Tryz.underlying174
  a46 := Tryz.isAgg174
  z46 := Tryz.sizeOf174
  v46 := Tryz.zeroValue174
  t51 := Tryz.underlying214
  a51 := Tryz.isAgg214
  z51 := Tryz.sizeOf214
  v51 := Tryz.zeroValue214
  t146 := Tryz.underlying215
  a146 := Tryz.isAgg215
  z146 := Tryz.sizeOf215
  v146 := Tryz.zeroValue215
  g1 := by kernel_rfl }
open Go.RowKit Go.Lib in
theorem Tryz.strings_Contains (s sub : ByteArray) (m : Int) (w : World) (hs : s.size < 4294967281) (hm : w.cell? ⟨2, 0, none⟩ = some (.int .i64 m)) :
    Calls Tryz.prog 91 #[.string s, .string sub] w fun e w' => e = .returned (.bool (Lib.contains s.data.toList sub.data.toList)) ∧ w' = w := Any.strings_Contains Tryz.lays144 s sub m w hs hm
def Tryz.lays110_ren : Go.Shelf.Ren := ⟨fun | 110 => 21 | 109 => 41 | n => n, fun | 31 => 38 | 9 => 9 | 4 => 4 | 3 => 3 | 0 => 0 | n => n, fun | n => n⟩
theorem Tryz.lays110 : Go.Proofs.Lays.n110 Tryz.prog Tryz.lays110_ren := {
  mixed := by kernel_rfl
  f109 := Tryz.func41.trans (congrArg some (by kernel_rfl))
  f110 := Tryz.func21.trans (congrArg some (by kernel_rfl))
  t0 := Tryz.underlying0
  a0 := Tryz.isAgg0
  z0 := Tryz.sizeOf0
  v0 := Tryz.zeroValue0
  t3 := Tryz.underlying3
  a3 := Tryz.isAgg3
  z3 := Tryz.sizeOf3
  v3 := Tryz.zeroValue3
  t4 := Tryz.underlying4
  a4 := Tryz.isAgg4
  z4 := Tryz.sizeOf4
  v4 := Tryz.zeroValue4
  t9 := Tryz.underlying9
  a9 := Tryz.isAgg9
  z9 := Tryz.sizeOf9
  v9 := Tryz.zeroValue9
  t31 := Tryz.underlying38
  a31 := Tryz.isAgg38
  z31 := Tryz.sizeOf38
  v31 := Tryz.zeroValue38 }
open Go.Lib in
theorem Tryz.slices_Contains_string (b off n c : Nat) (zs : List ByteArray) (x : ByteArray) (w : World) (hz : n ≤ zs.length) (hbig : n ≤ 9223372036854775807) (hc : ∀ j, j < zs.length → w.cell? ⟨b, off + j, none⟩ = some (.string (zs.getD j ByteArray.empty))) :
    Calls Tryz.prog 21 #[.slice (some ⟨b, off, none⟩) n c, .string x] w fun e w' => e = .returned (.bool (Lib.containsS (zs.take n) x)) ∧ w' = w := Any.slices_Contains_string Tryz.lays110 b off n c zs x w hz hbig hc
open Go.Lib in
theorem Tryz.slices_Contains_string_empty (a : Option Addr) (c : Nat) (x : ByteArray) (w : World) :
    Calls Tryz.prog 21 #[.slice a 0 c, .string x] w fun e w' => e = .returned (.bool false) ∧ w' = w := Any.slices_Contains_string_empty Tryz.lays110 a c x w
end Go.Proofs
namespace Go.Proofs.YtjbiabapnphheaaGreatDoor
open Go.Wk Go.Xt Go.Y Tryz
def Gm : M := fun w => ∃ m, w.cell? ⟨2, 0, none⟩ = some (.int .i64 m)
theorem pint_w {μ0 : M} {w0 w : World} {rsF : List Res} {l : List UInt8} {r : Int} (g : pint l = some r) (hS : Sq μ0 w0 w rsF) :
    CallsV prog 52 [S l, .int .i64 10, .int .i64 64] w (fun v w' => v = .tuple ⟨[.int .i64 r, .nilIface]⟩ ∧ Sq μ0 w0 w' rsF) := by
  unfold pint at g
  split at g
  · rename_i hl
    cases hp : Lib.parseIntB 64 l with
    | ok v =>
      rw [hp] at g
      obtain rfl := Option.some.inj g
      refine ⟨(strconv_ParseInt_10_at64_ok ⟨⟨l⟩⟩ hl v hp w).mono fun e w' he => ?_⟩
      obtain ⟨rfl, hw⟩ := he
      refine ⟨rfl, ?_⟩
      rcases hw with rfl | ⟨t, rfl⟩
      · exact hS
      · have h := Lib.bytesWorld_below w 5 t
        exact hS.grow ⟨h.os, h.tape, h.output, h.size, fun k hk _ => h.block k hk⟩
    | _ => rw [hp] at g; cases g
  · cases g
theorem scont_w {μ0 : M} {w0 w : World} {rsF : List Res} {l sub : List UInt8} {b : Bool} (hg : Le Gm μ0) (g : scont l sub = some b) (hS : Sq μ0 w0 w rsF) :
    CallsV prog 91 [S l, S sub] w (fun v w' => v = .bool b ∧ Sq μ0 w0 w' rsF) := by
  unfold scont at g
  split at g
  · rename_i hl
    obtain rfl := Option.some.inj g
    obtain ⟨m, hm⟩ := hg w hS.a
    refine ⟨(strings_Contains ⟨⟨l⟩⟩ ⟨⟨sub⟩⟩ m w hl hm).mono fun e w' he => ?_⟩
    obtain ⟨rfl, rfl⟩ := he
    exact ⟨rfl, hS⟩
  · cases g
end Go.Proofs.YtjbiabapnphheaaGreatDoor
namespace Go.Proofs.YtjbiabapnphheaaGreatDoor
open Go.Wk Go.Xt Go.Y Go.RowKit Tryz
section
variable {μ μ0 : M} {w0 w : World} {rsF rs : List Res}
def Cells1 (w : World) (v : Value) (vs : List Value) : Prop := (vs = [] ∧ ∃ a c, v = .slice a 0 c) ∨ ∃ b o c, v = .slice (some ⟨b, o, none⟩) vs.length c ∧ vs.length ≤ 9223372036854775807 ∧ ∀ j y, vs[j]? = some y → w.cell? ⟨b, o + j, none⟩ = some y
theorem rw_cells {α : Type} [Mo α] {f : α → Value} (hf : ∀ (μ : M) (l : List Value) (x : α), Mo.cs μ l x → l = [f x]) : ∀ {l : List α} {cells : List Value}, Rw μ cells l → cells = l.map f
  | [], cells, h => by rw [Rw] at h; simp [h]
  | x :: l, cells, h => by
    rw [Rw] at h
    obtain ⟨cs, t, rfl, h1, h2⟩ := h
    rw [hf _ _ _ h1, rw_cells hf h2]; rfl
theorem cells_row {α : Type} [Mo α] {f : α → Value} (hf : ∀ (μ : M) (l : List Value) (x : α), Mo.cs μ l x → l = [f x]) {v : Value} {T : TypeId} {l : List α} {cells : List Value} (h : Row w v T 1 l.length cells) (hr : Rw μ cells l) : Cells1 w v (l.map f) := by
  have e := rw_cells hf hr
  subst e
  rcases h.2 with ⟨rfl, h2⟩ | ⟨g, o, cap, cur, rfl, hg, h1, h2, h3, h4⟩
  · exact .inl ⟨by rw [List.length_eq_zero_iff.1 h2]; rfl, none, 0, rfl⟩
  · refine .inr ⟨g, o, cap, by simp, by simp; exact Nat.le_trans h1 (Nat.le_trans h2 (by decide)), fun j y hj => ?_⟩
    rw [cell_of_row w g (o + j) cur T (0, 0) hg]
    rw [← h4, List.getElem?_take] at hj
    split at hj
    · rw [List.getElem?_drop] at hj; simpa using hj
    · cases hj
theorem cells_sl {α : Type} [Mo α] {f : α → Value} (hf : ∀ (μ : M) (l : List Value) (x : α), Mo.cs μ l x → l = [f x]) (hsz : Mo.sz α = 1) {a : Option Addr} {c : Nat} {l : List α} (h : Sl μ a c l) (hw : μ w) : Cells1 w (.slice a l.length c) (l.map f) := by
  rcases h.el with rfl | ⟨b, o, rfl, gg, hel⟩
  · exact .inl ⟨rfl, a, c, rfl⟩
  · refine .inr ⟨b, o, c, by simp, by simp; exact Sl.len h, fun j y hj => ?_⟩
    simp only [List.getElem?_map, Option.map_eq_some_iff] at hj
    obtain ⟨x, hx, rfl⟩ := hj
    obtain ⟨h1, h2⟩ := hel j x hx
    rw [hf _ _ _ h2, hsz] at h1
    have := h1 w hw 0 _ rfl
    simpa using this
theorem str1 (μ : M) (l : List Value) (x : List UInt8) (h : Mo.cs μ l x) : l = [S x] := h
theorem contains_s_c {v : Value} {l : List (List UInt8)} {x : List UInt8} (h : Cells1 w v (l.map S)) : CallsV prog 21 [v, S x] w (fun v w' => v = .bool (l.contains x) ∧ w' = w) := by
  rcases h with ⟨h1, a, c, rfl⟩ | ⟨b, o, c, rfl, hl, hc⟩
  · obtain rfl : l = [] := List.map_eq_nil_iff.1 h1
    exact ⟨(slices_Contains_string_empty a c ⟨⟨x⟩⟩ w).mono fun e w' he => by
      obtain ⟨rfl, rfl⟩ := he
      exact ⟨rfl, rfl⟩⟩
  · refine ⟨(slices_Contains_string b o (l.map S).length c (l.map fun y => ⟨⟨y⟩⟩) ⟨⟨x⟩⟩ w (by simp) hl ?_).mono fun e w' he => ?_⟩
    · intro j hj
      have hj2 : j < l.length := by simpa using hj
      rw [hc j (S l[j]) (by simp [hj2])]
      simp [List.getElem?_eq_getElem hj2, S]
    · obtain ⟨rfl, rfl⟩ := he
      refine ⟨?_, rfl⟩
      congr 1
      rw [List.take_of_length_le (by simp), Bool.eq_iff_iff, Lib.containsS_iff, List.contains_iff_mem]
      constructor
      · intro hm
        obtain ⟨y, hy, e⟩ := List.mem_map.1 hm
        have e2 : y = x := congrArg (fun b : ByteArray => b.data.toList) e
        rwa [← e2]
      · exact fun hm => List.mem_map.2 ⟨x, hm, rfl⟩
end
end Go.Proofs.YtjbiabapnphheaaGreatDoor
