/- The shelf: texts of Fl. -/
import Derived.Test.YtegmgfljdeabeaaGreatDoorCXt
import Derived.Test.YtegmgfljdeabeaaGreatDoorProg
import Derived.KernelRfl
import Derived.Shelf.Strconv.ParseIntEmpty
import Derived.Shelf.LaysM
import Derived.Shelf.Strconv.Clone
import Derived.Shelf.Strconv.SyntaxError
import Derived.Shelf.LaysC
import Derived.Shelf.Strconv.ToError
import Derived.Shelf.Strconv.Lower
import Derived.Shelf.Strconv.ParseUint10
import Derived.Shelf.Strconv.ParseUint10Empty
import Derived.Shelf.Strconv.ParseUint10Any
import Derived.Shelf.Strconv.ParseInt10
import Derived.Shelf.Strconv.RangeError
import Derived.Shelf.Strconv.ToErrorRange
import Derived.Shelf.Strconv.ParseUintEmpty
import Derived.Shelf.Strconv.ParseUint10b64
import Derived.Shelf.Strconv.ParseUint10b32
import Derived.Shelf.Strconv.ParseUint10b16
import Derived.Shelf.Strconv.ParseUint10b8
import Derived.Shelf.Strconv.ParseUint10At
import Derived.Shelf.Strconv.ParseInt10At64
import Derived.Shelf.Strconv.ParseInt10At32
import Derived.Shelf.Strconv.ParseInt10At16
import Derived.Shelf.Strconv.ParseInt10At8
import Derived.Shelf.Strconv.ParseInt10All
import Derived.Shelf.Strconv.ParseIntPublic10
import Derived.Shelf.Strings.Search1
import Derived.Shelf.Strings.Search2
import Derived.Shelf.Strings.Search3
import Derived.Shelf.Strings.Shaped
import Derived.Shelf.Slices.Turned
import Derived.Ground.Names2Prog
import Derived.Shelf.Slices.Clone
import Derived.Ground.SlgnProg
import Derived.Shelf.SlicesE.Clone
import Derived.Test.YtegmgfljdeabeaaGreatDoorCMd
import Derived.Test.YtegmgfljdeabeaaGreatDoorCXu
import Derived.Lib.SlicesS
set_option linter.unusedSimpArgs false
set_option linter.unusedVariables false
set_option linter.unusedSectionVars false
namespace Go.Proofs.YtegmgfljdeabeaaGreatDoor
open Go.Wk Go.Xt Tryz
instance isfn15 : IsFn prog 15 := isf func15
instance isfn16 : IsFn prog 16 := isf func16
instance isfn17 : IsFn prog 17 := isf func17
instance isfn18 : IsFn prog 18 := isf func18
instance isfn19 : IsFn prog 19 := isf func19
instance isfn20 : IsFn prog 20 := isf func20
instance isfn21 : IsFn prog 21 := isf func21
instance isfn22 : IsFn prog 22 := isf func22
instance isfn23 : IsFn prog 23 := isf func23
instance isfn24 : IsFn prog 24 := isf func24
instance isfn25 : IsFn prog 25 := isf func25
instance isfn26 : IsFn prog 26 := isf func26
instance isfn27 : IsFn prog 27 := isf func27
instance isfn28 : IsFn prog 28 := isf func28
instance isfn29 : IsFn prog 29 := isf func29
instance isfn30 : IsFn prog 30 := isf func30
instance isfn31 : IsFn prog 31 := isf func31
instance isfn32 : IsFn prog 32 := isf func32
instance isfn33 : IsFn prog 33 := isf func33
instance isfn35 : IsFn prog 35 := isf func35
instance isfn36 : IsFn prog 36 := isf func36
instance isfn37 : IsFn prog 37 := isf func37
instance isfn38 : IsFn prog 38 := isf func38
instance isfn39 : IsFn prog 39 := isf func39
instance isfn40 : IsFn prog 40 := isf func40
instance isfn41 : IsFn prog 41 := isf func41
instance isfn42 : IsFn prog 42 := isf func42
instance isfn43 : IsFn prog 43 := isf func43
instance isfn44 : IsFn prog 44 := isf func44
instance isfn45 : IsFn prog 45 := isf func45
instance isfn46 : IsFn prog 46 := isf func46
instance isfn47 : IsFn prog 47 := isf func47
instance isfn48 : IsFn prog 48 := isf func48
instance isfn50 : IsFn prog 50 := isf func50
instance isfn51 : IsFn prog 51 := isf func51
instance isfn52 : IsFn prog 52 := isf func52
instance isfn53 : IsFn prog 53 := isf func53
instance isfn54 : IsFn prog 54 := isf func54
instance isfn55 : IsFn prog 55 := isf func55
instance isfn56 : IsFn prog 56 := isf func56
instance isfn57 : IsFn prog 57 := isf func57
instance isfn58 : IsFn prog 58 := isf func58
instance isfn59 : IsFn prog 59 := isf func59
instance isfn60 : IsFn prog 60 := isf func60
instance isfn61 : IsFn prog 61 := isf func61
instance isfn62 : IsFn prog 62 := isf func62
instance isfn63 : IsFn prog 63 := isf func63
instance isfn64 : IsFn prog 64 := isf func64
instance isfn65 : IsFn prog 65 := isf func65
instance isfn66 : IsFn prog 66 := isf func66
instance isfn67 : IsFn prog 67 := isf func67
instance isfn68 : IsFn prog 68 := isf func68
instance isfn70 : IsFn prog 70 := isf func70
instance isfn71 : IsFn prog 71 := isf func71
instance isfn72 : IsFn prog 72 := isf func72
instance isfn73 : IsFn prog 73 := isf func73
instance isfn74 : IsFn prog 74 := isf func74
instance isfn75 : IsFn prog 75 := isf func75
instance isfn76 : IsFn prog 76 := isf func76
instance isfn77 : IsFn prog 77 := isf func77
instance isfn78 : IsFn prog 78 := isf func78
instance isfn79 : IsFn prog 79 := isf func79
instance isfn80 : IsFn prog 80 := isf func80
instance isfn81 : IsFn prog 81 := isf func81
instance isfn82 : IsFn prog 82 := isf func82
instance isfn83 : IsFn prog 83 := isf func83
instance isfn84 : IsFn prog 84 := isf func84
instance isfn85 : IsFn prog 85 := isf func85
instance isfn86 : IsFn prog 86 := isf func86
instance isfn87 : IsFn prog 87 := isf func87
instance isfn88 : IsFn prog 88 := isf func88
instance isfn89 : IsFn prog 89 := isf func89
instance isfn90 : IsFn prog 90 := isf func90
instance isfn91 : IsFn prog 91 := isf func91
instance isfn92 : IsFn prog 92 := isf func92
instance isfn93 : IsFn prog 93 := isf func93
instance isfn96 : IsFn prog 96 := isf func96
instance isfn97 : IsFn prog 97 := isf func97
instance isfn100 : IsFn prog 100 := isf func100
instance isfn101 : IsFn prog 101 := isf func101
instance isfn102 : IsFn prog 102 := isf func102
instance isfn103 : IsFn prog 103 := isf func103
instance isfn104 : IsFn prog 104 := isf func104
instance isfn105 : IsFn prog 105 := isf func105
instance isfn106 : IsFn prog 106 := isf func106
instance isfn107 : IsFn prog 107 := isf func107
instance isfn108 : IsFn prog 108 := isf func108
instance isfn109 : IsFn prog 109 := isf func109
instance isfn110 : IsFn prog 110 := isf func110
instance isfn111 : IsFn prog 111 := isf func111
instance isfn112 : IsFn prog 112 := isf func112
instance isfn116 : IsFn prog 116 := isf func116
instance isfn117 : IsFn prog 117 := isf func117
instance isfn118 : IsFn prog 118 := isf func118
instance isfn119 : IsFn prog 119 := isf func119
instance isfn120 : IsFn prog 120 := isf func120
instance isfn121 : IsFn prog 121 := isf func121
instance isfn122 : IsFn prog 122 := isf func122
instance isfn123 : IsFn prog 123 := isf func123
instance isfn125 : IsFn prog 125 := isf func125
instance isfn126 : IsFn prog 126 := isf func126
instance isfn133 : IsFn prog 133 := isf func133
instance isfn134 : IsFn prog 134 := isf func134
instance isfn135 : IsFn prog 135 := isf func135
instance isfn136 : IsFn prog 136 := isf func136
instance isfn137 : IsFn prog 137 := isf func137
instance isfn138 : IsFn prog 138 := isf func138
instance isfn139 : IsFn prog 139 := isf func139
instance isfn140 : IsFn prog 140 := isf func140
instance isfn141 : IsFn prog 141 := isf func141
instance isfn143 : IsFn prog 143 := isf func143
instance isfn144 : IsFn prog 144 := isf func144
instance isfn145 : IsFn prog 145 := isf func145
instance isfn147 : IsFn prog 147 := isf func147
instance isfn156 : IsFn prog 156 := isf func156
instance isfn157 : IsFn prog 157 := isf func157
instance isfn159 : IsFn prog 159 := isf func159
instance isfn160 : IsFn prog 160 := isf func160
instance isfn161 : IsFn prog 161 := isf func161
instance isfn162 : IsFn prog 162 := isf func162
instance isfn165 : IsFn prog 165 := isf func165
instance isfn166 : IsFn prog 166 := isf func166
instance isfn167 : IsFn prog 167 := isf func167
instance isfn168 : IsFn prog 168 := isf func168
instance isfn169 : IsFn prog 169 := isf func169
instance isfn170 : IsFn prog 170 := isf func170
instance isfn176 : IsFn prog 176 := isf func176
instance isfn177 : IsFn prog 177 := isf func177
instance isfn178 : IsFn prog 178 := isf func178
instance isfn179 : IsFn prog 179 := isf func179
instance isfn180 : IsFn prog 180 := isf func180
instance isfn189 : IsFn prog 189 := isf func189
instance isfn190 : IsFn prog 190 := isf func190
instance isfn215 : IsFn prog 215 := isf func215
instance isfn218 : IsFn prog 218 := isf func218
instance ti2 : TI prog 2 false [.int .i64 0] 1 8 := tj (z := .int .i64 0) underlying2
instance ti3 : TI prog 3 false [.int .i64 0] 1 8 := tj (z := .int .i64 0) underlying3
instance ti4 : TI prog 4 false [.bool false] 1 1 := tj (z := .bool false) underlying4
instance ti9 : TI prog 9 false [S []] 1 16 := tj (z := S []) underlying9
instance ti22 : TI prog 22 false [.slice none 0 0] 1 24 := tj (z := .slice none 0 0) underlying22
instance ti26 : TI prog 26 false [.slice none 0 0] 1 24 := tj (z := .slice none 0 0) underlying26
instance ti29 : TI prog 29 false [.slice none 0 0] 1 24 := tj (z := .slice none 0 0) underlying29
instance ti30 : TI prog 30 false [.slice none 0 0] 1 24 := tj (z := .slice none 0 0) underlying30
instance ti32 : TI prog 32 true [.int .i64 0, .int .i64 0, .int .i64 0, .slice none 0 0, .slice none 0 0, .slice none 0 0, .int .i64 0] 7 104 := tj (z := .agg #[.int .i64 0, .int .i64 0, .int .i64 0, .slice none 0 0, .slice none 0 0, .slice none 0 0, .int .i64 0]) underlying32
instance ti33 : TI prog 33 false [.int .i64 0] 1 8 := tj (z := .int .i64 0) underlying33
instance ti36 : TI prog 36 false [.slice none 0 0] 1 24 := tj (z := .slice none 0 0) underlying36
instance ti37 : TI prog 37 false [.slice none 0 0] 1 24 := tj (z := .slice none 0 0) underlying37
instance ti39 : TI prog 39 true [.slice none 0 0, .slice none 0 0] 2 48 := tj (z := .agg #[.slice none 0 0, .slice none 0 0]) underlying39
instance ti45 : TI prog 45 false [.slice none 0 0] 1 24 := tj (z := .slice none 0 0) underlying45
instance ti47 : TI prog 47 true [.int .i64 0, .int .i64 0] 2 16 := tj (z := .agg #[.int .i64 0, .int .i64 0]) underlying47
instance ti53 : TI prog 53 true [.int .i64 0, .int .i64 0, .int .i64 0] 3 24 := tj (z := .agg #[.int .i64 0, .int .i64 0, .int .i64 0]) underlying53
instance ti56 : TI prog 56 false [.pointer none] 1 8 := tj (z := .pointer none) underlying56
instance ti58 : TI prog 58 true [.int .i64 0, .int .i64 0] 2 16 := tj (z := .agg #[.int .i64 0, .int .i64 0]) underlying58
instance ti61 : TI prog 61 true [.slice none 0 0, .slice none 0 0, .slice none 0 0] 3 72 := tj (z := .agg #[.slice none 0 0, .slice none 0 0, .slice none 0 0]) underlying61
instance ti66 : TI prog 66 false [.nilIface] 1 16 := tj (z := .nilIface) underlying66
instance ti67 : TI prog 67 false [.slice none 0 0] 1 24 := tj (z := .slice none 0 0) underlying67
instance ti68 : TI prog 68 false [.pointer none] 1 8 := tj (z := .pointer none) underlying68
instance ti69 : TI prog 69 false [.nilFunc] 1 8 := tj (z := .nilFunc) underlying69
instance ti71 : TI prog 71 true [.pointer none, .nilIface, .slice none 0 0, .pointer none, .int .i64 0, .int .i64 0, .int .i64 0, .slice none 0 0, .nilFunc] 9 112 := tj (z := .agg #[.pointer none, .nilIface, .slice none 0 0, .pointer none, .int .i64 0, .int .i64 0, .int .i64 0, .slice none 0 0, .nilFunc]) underlying71
instance ti72 : TI prog 72 false [.slice none 0 0] 1 24 := tj (z := .slice none 0 0) underlying72
instance ti76 : TI prog 76 true [S [], S []] 2 32 := tj (z := .agg #[S [], S []]) underlying76
instance ti78 : TI prog 78 false [.slice none 0 0] 1 24 := tj (z := .slice none 0 0) underlying78
instance ti83 : TI prog 83 false [.pointer none] 1 8 := tj (z := .pointer none) underlying83
instance ti85 : TI prog 85 true [.slice none 0 0, .int .i64 0, .int .i64 0] 3 40 := tj (z := .agg #[.slice none 0 0, .int .i64 0, .int .i64 0]) underlying85
instance ti89 : TI prog 89 true [.int .i64 0, S []] 2 24 := tj (z := .agg #[.int .i64 0, S []]) underlying89
instance ti91 : TI prog 91 false [.slice none 0 0] 1 24 := tj (z := .slice none 0 0) underlying91
instance ti93 : TI prog 93 true [.int .i64 0, S [], .int .i64 0, S [], .int .i64 0, S [], .int .i64 0, .slice none 0 0, .slice none 0 0] 9 128 := tj (z := .agg #[.int .i64 0, S [], .int .i64 0, S [], .int .i64 0, S [], .int .i64 0, .slice none 0 0, .slice none 0 0]) underlying93
instance ti96 : TI prog 96 false [.pointer none] 1 8 := tj (z := .pointer none) underlying96
instance ti97 : TI prog 97 false [.map none] 1 8 := tj (z := .map none) underlying97
instance ti98 : TI prog 98 false [.map none] 1 8 := tj (z := .map none) underlying98
instance ti100 : TI prog 100 true [.map none, .map none, .map none] 3 24 := tj (z := .agg #[.map none, .map none, .map none]) underlying100
instance ti101 : TI prog 101 false [.pointer none] 1 8 := tj (z := .pointer none) underlying101
instance ti103 : TI prog 103 false [.slice none 0 0] 1 24 := tj (z := .slice none 0 0) underlying103
instance ti105 : TI prog 105 true [.int .i64 0, .int .i64 0, .slice none 0 0, .int .i64 0, .int .i64 0, .slice none 0 0] 6 80 := tj (z := .agg #[.int .i64 0, .int .i64 0, .slice none 0 0, .int .i64 0, .int .i64 0, .slice none 0 0]) underlying105
instance ti107 : TI prog 107 false [.pointer none] 1 8 := tj (z := .pointer none) underlying107
instance ti109 : TI prog 109 true [.pointer none] 1 8 := tj (z := .agg #[.pointer none]) underlying109
instance ti113 : TI prog 113 false [.slice none 0 0] 1 24 := tj (z := .slice none 0 0) underlying113
instance ti114 : TI prog 114 false [.pointer none] 1 8 := tj (z := .pointer none) underlying114
instance ti116 : TI prog 116 true [.int .i64 0, .pointer none, .slice none 0 0, .pointer none] 4 48 := tj (z := .agg #[.int .i64 0, .pointer none, .slice none 0 0, .pointer none]) underlying116
instance ti119 : TI prog 119 true [.int .i64 0, .int .i64 0, .int .i64 0] 3 24 := tj (z := .agg #[.int .i64 0, .int .i64 0, .int .i64 0]) underlying119
instance ti122 : TI prog 122 true [.int .i64 0, .int .i64 0, .int .i64 0] 3 24 := tj (z := .agg #[.int .i64 0, .int .i64 0, .int .i64 0]) underlying122
instance ti135 : TI prog 135 true [.int .i64 0, S [], .int .i64 0, .int .i64 0] 4 40 := tj (z := .agg #[.int .i64 0, S [], .int .i64 0, .int .i64 0]) underlying135
instance ti151 : TI prog 151 true [.int .i64 0] 1 8 := tj (z := .agg #[.int .i64 0]) underlying151
instance ti152 : TI prog 152 false [.nilFunc] 1 8 := tj (z := .nilFunc) underlying152
instance ti157 : TI prog 157 false [.slice none 0 0] 1 24 := tj (z := .slice none 0 0) underlying157
instance ti159 : TI prog 159 true [.pointer none, .int .i64 0, .int .i64 0, .slice none 0 0, .int .i64 0, .int .i64 0, .slice none 0 0, .slice none 0 0] 8 112 := tj (z := .agg #[.pointer none, .int .i64 0, .int .i64 0, .slice none 0 0, .int .i64 0, .int .i64 0, .slice none 0 0, .slice none 0 0]) underlying159
instance ti166 : TI prog 166 false [.pointer none] 1 8 := tj (z := .pointer none) underlying166
instance ti170 : TI prog 170 false [.map none] 1 8 := tj (z := .map none) underlying170
instance ti172 : TI prog 172 true [.slice none 0 0, .slice none 0 0] 2 48 := tj (z := .agg #[.slice none 0 0, .slice none 0 0]) underlying172
instance ti174 : TI prog 174 true [.pointer none, .pointer none, .map none, .slice none 0 0, .slice none 0 0, .slice none 0 0, .int .i64 0] 7 104 := tj (z := .agg #[.pointer none, .pointer none, .map none, .slice none 0 0, .slice none 0 0, .slice none 0 0, .int .i64 0]) underlying174
instance ti182 : TI prog 182 true [.slice none 0 0, .int .i64 0, .int .i64 0, .int .i64 0] 4 48 := tj (z := .agg #[.slice none 0 0, .int .i64 0, .int .i64 0, .int .i64 0]) underlying182
instance ti189 : TI prog 189 false [.slice none 0 0] 1 24 := tj (z := .slice none 0 0) underlying189
instance ti192 : TI prog 192 false [.slice none 0 0] 1 24 := tj (z := .slice none 0 0) underlying192
instance ti194 : TI prog 194 true [.int .i64 0, .int .i64 0, S [], .slice none 0 0] 4 56 := tj (z := .agg #[.int .i64 0, .int .i64 0, S [], .slice none 0 0]) underlying194
instance ti196 : TI prog 196 true [.int .i64 0, S [], .int .i64 0, .int .i64 0, S [], .slice none 0 0, .slice none 0 0, .slice none 0 0] 8 128 := tj (z := .agg #[.int .i64 0, S [], .int .i64 0, .int .i64 0, S [], .slice none 0 0, .slice none 0 0, .slice none 0 0]) underlying196
instance ti201 : TI prog 201 false [.pointer none] 1 8 := tj (z := .pointer none) underlying201
instance ti206 : TI prog 206 true [.slice none 0 0, .slice none 0 0, .slice none 0 0] 3 72 := tj (z := .agg #[.slice none 0 0, .slice none 0 0, .slice none 0 0]) underlying206
instance ti209 : TI prog 209 true [S [], S [], S []] 3 48 := tj (z := .agg #[S [], S [], S []]) underlying209
instance ti210 : TI prog 210 false [.pointer none] 1 8 := tj (z := .pointer none) underlying210
instance ti211 : TI prog 211 true [.slice none 0 0, .pointer none] 2 32 := tj (z := .agg #[.slice none 0 0, .pointer none]) underlying211
instance ti238 : TI prog 238 true [.slice none 0 0, .map none] 2 32 := tj (z := .agg #[.slice none 0 0, .map none]) underlying238
instance ti258 : TI prog 258 false [.pointer none] 1 8 := tj (z := .pointer none) underlying258
instance ti259 : TI prog 259 false [.map none] 1 8 := tj (z := .map none) underlying259
instance ti260 : TI prog 260 false [.slice none 0 0] 1 24 := tj (z := .slice none 0 0) underlying260
instance ti262 : TI prog 262 true [.pointer none, .pointer none, .slice none 0 0] 3 40 := tj (z := .agg #[.pointer none, .pointer none, .slice none 0 0]) underlying262
instance ti275 : TI prog 275 true [.map none, .bool false] 2 16 := tj (z := .agg #[.map none, .bool false]) underlying275
theorem eg89 : prog.eqGuardType prog.depth 89 = false := by kernel_rfl
theorem eh89 : prog.stoodInHeld 89 = false := by kernel_rfl
instance fa100_0 : FA prog 100 0 0 := fa_of underlying100 rfl rfl rfl ti97 rfl
instance fa100_1 : FA prog 100 1 1 := fa_of underlying100 rfl rfl rfl ti97 rfl
instance fa100_2 : FA prog 100 2 2 := fa_of underlying100 rfl rfl rfl ti98 rfl
instance fa105_0 : FA prog 105 0 0 := fa_of underlying105 rfl rfl rfl ti3 rfl
instance fa105_1 : FA prog 105 1 1 := fa_of underlying105 rfl rfl rfl ti3 rfl
instance fa105_2 : FA prog 105 2 2 := fa_of underlying105 rfl rfl rfl ti30 rfl
instance fa105_5 : FA prog 105 5 5 := fa_of underlying105 rfl rfl rfl ti103 rfl
instance fa109_0 : FA prog 109 0 0 := fa_of underlying109 rfl rfl rfl ti56 rfl
instance fa116_0 : FA prog 116 0 0 := fa_of underlying116 rfl rfl rfl ti3 rfl
instance fa116_1 : FA prog 116 1 1 := fa_of underlying116 rfl rfl rfl ti68 rfl
instance fa116_2 : FA prog 116 2 2 := fa_of underlying116 rfl rfl rfl ti113 rfl
instance fa116_3 : FA prog 116 3 3 := fa_of underlying116 rfl rfl rfl ti114 rfl
instance fa119_0 : FA prog 119 0 0 := fa_of underlying119 rfl rfl rfl ti3 rfl
instance fa119_1 : FA prog 119 1 1 := fa_of underlying119 rfl rfl rfl ti3 rfl
instance fa119_2 : FA prog 119 2 2 := fa_of underlying119 rfl rfl rfl ti3 rfl
instance fa122_0 : FA prog 122 0 0 := fa_of underlying122 rfl rfl rfl ti3 rfl
instance fa122_1 : FA prog 122 1 1 := fa_of underlying122 rfl rfl rfl ti3 rfl
instance fa122_2 : FA prog 122 2 2 := fa_of underlying122 rfl rfl rfl ti2 rfl
instance fa135_0 : FA prog 135 0 0 := fa_of underlying135 rfl rfl rfl ti3 rfl
instance fa135_1 : FA prog 135 1 1 := fa_of underlying135 rfl rfl rfl ti9 rfl
instance fa135_2 : FA prog 135 2 2 := fa_of underlying135 rfl rfl rfl ti2 rfl
instance fa135_3 : FA prog 135 3 3 := fa_of underlying135 rfl rfl rfl ti3 rfl
instance fa151_0 : FA prog 151 0 0 := fa_of underlying151 rfl rfl rfl ti3 rfl
instance fa159_0 : FA prog 159 0 0 := fa_of underlying159 rfl rfl rfl ti96 rfl
instance fa159_1 : FA prog 159 1 1 := fa_of underlying159 rfl rfl rfl ti105 rfl
instance fa159_2 : FA prog 159 2 7 := fa_of underlying159 rfl rfl rfl ti157 rfl
instance fa172_0 : FA prog 172 0 0 := fa_of underlying172 rfl rfl rfl ti30 rfl
instance fa172_1 : FA prog 172 1 1 := fa_of underlying172 rfl rfl rfl ti26 rfl
instance fa174_0 : FA prog 174 0 0 := fa_of underlying174 rfl rfl rfl ti107 rfl
instance fa174_1 : FA prog 174 1 1 := fa_of underlying174 rfl rfl rfl ti166 rfl
instance fa174_2 : FA prog 174 2 2 := fa_of underlying174 rfl rfl rfl ti170 rfl
instance fa174_3 : FA prog 174 3 3 := fa_of underlying174 rfl rfl rfl ti30 rfl
instance fa174_4 : FA prog 174 4 4 := fa_of underlying174 rfl rfl rfl ti172 rfl
instance fa174_5 : FA prog 174 5 6 := fa_of underlying174 rfl rfl rfl ti33 rfl
instance fa182_0 : FA prog 182 0 0 := fa_of underlying182 rfl rfl rfl ti22 rfl
instance fa182_1 : FA prog 182 1 1 := fa_of underlying182 rfl rfl rfl ti3 rfl
instance fa182_2 : FA prog 182 2 2 := fa_of underlying182 rfl rfl rfl ti3 rfl
instance fa182_3 : FA prog 182 3 3 := fa_of underlying182 rfl rfl rfl ti3 rfl
instance fa194_0 : FA prog 194 0 0 := fa_of underlying194 rfl rfl rfl ti3 rfl
instance fa194_1 : FA prog 194 1 1 := fa_of underlying194 rfl rfl rfl ti2 rfl
instance fa194_2 : FA prog 194 2 2 := fa_of underlying194 rfl rfl rfl ti9 rfl
instance fa194_3 : FA prog 194 3 3 := fa_of underlying194 rfl rfl rfl ti192 rfl
instance fa196_0 : FA prog 196 0 0 := fa_of underlying196 rfl rfl rfl ti3 rfl
instance fa196_1 : FA prog 196 1 1 := fa_of underlying196 rfl rfl rfl ti9 rfl
instance fa196_2 : FA prog 196 2 2 := fa_of underlying196 rfl rfl rfl ti194 rfl
instance fa196_3 : FA prog 196 3 6 := fa_of underlying196 rfl rfl rfl ti91 rfl
instance fa196_4 : FA prog 196 4 7 := fa_of underlying196 rfl rfl rfl ti91 rfl
instance fa206_0 : FA prog 206 0 0 := fa_of underlying206 rfl rfl rfl ti189 rfl
instance fa206_1 : FA prog 206 1 1 := fa_of underlying206 rfl rfl rfl ti189 rfl
instance fa206_2 : FA prog 206 2 2 := fa_of underlying206 rfl rfl rfl ti189 rfl
instance fa209_1 : FA prog 209 1 1 := fa_of underlying209 rfl rfl rfl ti9 rfl
instance fa209_2 : FA prog 209 2 2 := fa_of underlying209 rfl rfl rfl ti9 rfl
instance fa211_0 : FA prog 211 0 0 := fa_of underlying211 rfl rfl rfl ti189 rfl
instance fa211_1 : FA prog 211 1 1 := fa_of underlying211 rfl rfl rfl ti210 rfl
instance fa238_1 : FA prog 238 1 1 := fa_of underlying238 rfl rfl rfl ti98 rfl
instance fa262_0 : FA prog 262 0 0 := fa_of underlying262 rfl rfl rfl ti201 rfl
instance fa262_2 : FA prog 262 2 2 := fa_of underlying262 rfl rfl rfl ti260 rfl
instance fa275_0 : FA prog 275 0 0 := fa_of underlying275 rfl rfl rfl ti97 rfl
instance fa275_1 : FA prog 275 1 1 := fa_of underlying275 rfl rfl rfl ti4 rfl
instance fa32_0 : FA prog 32 0 0 := fa_of underlying32 rfl rfl rfl ti3 rfl
instance fa32_3 : FA prog 32 3 3 := fa_of underlying32 rfl rfl rfl ti22 rfl
instance fa32_5 : FA prog 32 5 5 := fa_of underlying32 rfl rfl rfl ti30 rfl
instance fa39_0 : FA prog 39 0 0 := fa_of underlying39 rfl rfl rfl ti36 rfl
instance fa39_1 : FA prog 39 1 1 := fa_of underlying39 rfl rfl rfl ti37 rfl
instance fa47_0 : FA prog 47 0 0 := fa_of underlying47 rfl rfl rfl ti33 rfl
instance fa53_0 : FA prog 53 0 0 := fa_of underlying53 rfl rfl rfl ti33 rfl
instance fa58_0 : FA prog 58 0 0 := fa_of underlying58 rfl rfl rfl ti3 rfl
instance fa58_1 : FA prog 58 1 1 := fa_of underlying58 rfl rfl rfl ti3 rfl
instance fa61_0 : FA prog 61 0 0 := fa_of underlying61 rfl rfl rfl ti29 rfl
instance fa61_1 : FA prog 61 1 1 := fa_of underlying61 rfl rfl rfl ti30 rfl
instance fa61_2 : FA prog 61 2 2 := fa_of underlying61 rfl rfl rfl ti29 rfl
instance fa71_0 : FA prog 71 0 0 := fa_of underlying71 rfl rfl rfl ti56 rfl
instance fa71_1 : FA prog 71 1 1 := fa_of underlying71 rfl rfl rfl ti66 rfl
instance fa71_2 : FA prog 71 2 2 := fa_of underlying71 rfl rfl rfl ti67 rfl
instance fa71_3 : FA prog 71 3 3 := fa_of underlying71 rfl rfl rfl ti68 rfl
instance fa71_4 : FA prog 71 4 4 := fa_of underlying71 rfl rfl rfl ti3 rfl
instance fa71_5 : FA prog 71 5 5 := fa_of underlying71 rfl rfl rfl ti3 rfl
instance fa71_6 : FA prog 71 6 6 := fa_of underlying71 rfl rfl rfl ti3 rfl
instance fa71_7 : FA prog 71 7 7 := fa_of underlying71 rfl rfl rfl ti22 rfl
instance fa71_8 : FA prog 71 8 8 := fa_of underlying71 rfl rfl rfl ti69 rfl
instance fa76_0 : FA prog 76 0 0 := fa_of underlying76 rfl rfl rfl ti9 rfl
instance fa76_1 : FA prog 76 1 1 := fa_of underlying76 rfl rfl rfl ti9 rfl
instance fa85_0 : FA prog 85 0 0 := fa_of underlying85 rfl rfl rfl ti78 rfl
instance fa85_2 : FA prog 85 2 2 := fa_of underlying85 rfl rfl rfl ti3 rfl
instance fa89_0 : FA prog 89 0 0 := fa_of underlying89 rfl rfl rfl ti3 rfl
instance fa89_1 : FA prog 89 1 1 := fa_of underlying89 rfl rfl rfl ti9 rfl
instance fa93_0 : FA prog 93 0 0 := fa_of underlying93 rfl rfl rfl ti3 rfl
instance fa93_1 : FA prog 93 1 1 := fa_of underlying93 rfl rfl rfl ti9 rfl
instance fa93_2 : FA prog 93 2 2 := fa_of underlying93 rfl rfl rfl ti89 rfl
instance fa93_4 : FA prog 93 4 6 := fa_of underlying93 rfl rfl rfl ti3 rfl
instance fa93_6 : FA prog 93 6 8 := fa_of underlying93 rfl rfl rfl ti91 rfl
theorem pl100 : PL prog 100 #[(0, 1), (1, 1), (2, 1)] := pl_of underlying100 (fun _ => by kernel_rfl)
theorem pl105 : PL prog 105 #[(0, 1), (1, 1), (2, 1), (3, 1), (4, 1), (5, 1)] := pl_of underlying105 (fun _ => by kernel_rfl)
theorem pl109 : PL prog 109 #[(0, 1)] := pl_of underlying109 (fun _ => by kernel_rfl)
theorem pl116 : PL prog 116 #[(0, 1), (1, 1), (2, 1), (3, 1)] := pl_of underlying116 (fun _ => by kernel_rfl)
theorem pl119 : PL prog 119 #[(0, 1), (1, 1), (2, 1)] := pl_of underlying119 (fun _ => by kernel_rfl)
theorem pl122 : PL prog 122 #[(0, 1), (1, 1), (2, 1)] := pl_of underlying122 (fun _ => by kernel_rfl)
theorem pl135 : PL prog 135 #[(0, 1), (1, 1), (2, 1), (3, 1)] := pl_of underlying135 (fun _ => by kernel_rfl)
theorem pl151 : PL prog 151 #[(0, 1)] := pl_of underlying151 (fun _ => by kernel_rfl)
theorem pl159 : PL prog 159 #[(0, 1), (1, 6), (7, 1)] := pl_of underlying159 (fun _ => by kernel_rfl)
theorem pl172 : PL prog 172 #[(0, 1), (1, 1)] := pl_of underlying172 (fun _ => by kernel_rfl)
theorem pl174 : PL prog 174 #[(0, 1), (1, 1), (2, 1), (3, 1), (4, 2), (6, 1)] := pl_of underlying174 (fun _ => by kernel_rfl)
theorem pl182 : PL prog 182 #[(0, 1), (1, 1), (2, 1), (3, 1)] := pl_of underlying182 (fun _ => by kernel_rfl)
theorem pl194 : PL prog 194 #[(0, 1), (1, 1), (2, 1), (3, 1)] := pl_of underlying194 (fun _ => by kernel_rfl)
theorem pl196 : PL prog 196 #[(0, 1), (1, 1), (2, 4), (6, 1), (7, 1)] := pl_of underlying196 (fun _ => by kernel_rfl)
theorem pl209 : PL prog 209 #[(0, 1), (1, 1), (2, 1)] := pl_of underlying209 (fun _ => by kernel_rfl)
theorem pl211 : PL prog 211 #[(0, 1), (1, 1)] := pl_of underlying211 (fun _ => by kernel_rfl)
theorem pl238 : PL prog 238 #[(0, 1), (1, 1)] := pl_of underlying238 (fun _ => by kernel_rfl)
theorem pl262 : PL prog 262 #[(0, 1), (1, 1), (2, 1)] := pl_of underlying262 (fun _ => by kernel_rfl)
theorem pl275 : PL prog 275 #[(0, 1), (1, 1)] := pl_of underlying275 (fun _ => by kernel_rfl)
theorem pl32 : PL prog 32 #[(0, 1), (1, 1), (2, 1), (3, 1), (4, 1), (5, 1), (6, 1)] := pl_of underlying32 (fun _ => by kernel_rfl)
theorem pl47 : PL prog 47 #[(0, 1), (1, 1)] := pl_of underlying47 (fun _ => by kernel_rfl)
theorem pl53 : PL prog 53 #[(0, 1), (1, 1), (2, 1)] := pl_of underlying53 (fun _ => by kernel_rfl)
theorem pl58 : PL prog 58 #[(0, 1), (1, 1)] := pl_of underlying58 (fun _ => by kernel_rfl)
theorem pl61 : PL prog 61 #[(0, 1), (1, 1), (2, 1)] := pl_of underlying61 (fun _ => by kernel_rfl)
theorem pl71 : PL prog 71 #[(0, 1), (1, 1), (2, 1), (3, 1), (4, 1), (5, 1), (6, 1), (7, 1), (8, 1)] := pl_of underlying71 (fun _ => by kernel_rfl)
theorem pl76 : PL prog 76 #[(0, 1), (1, 1)] := pl_of underlying76 (fun _ => by kernel_rfl)
theorem pl85 : PL prog 85 #[(0, 1), (1, 1), (2, 1)] := pl_of underlying85 (fun _ => by kernel_rfl)
theorem pl89 : PL prog 89 #[(0, 1), (1, 1)] := pl_of underlying89 (fun _ => by kernel_rfl)
theorem pl93 : PL prog 93 #[(0, 1), (1, 1), (2, 2), (4, 2), (6, 1), (7, 1), (8, 1)] := pl_of underlying93 (fun _ => by kernel_rfl)
theorem zv101 : ∀ w, (zeroValue 101).run prog w = .ok (.pointer none) w := zv_of (by kernel_rfl)
theorem zv172 : ∀ w, (zeroValue 172).run prog w = .ok (.agg #[.slice none 0 0, .slice none 0 0]) w := zv_of (by kernel_rfl)
theorem zv206 : ∀ w, (zeroValue 206).run prog w = .ok (.agg #[.slice none 0 0, .slice none 0 0, .slice none 0 0]) w := zv_of (by kernel_rfl)
theorem zv3 : ∀ w, (zeroValue 3).run prog w = .ok (.int .i64 0) w := zv_of (by kernel_rfl)
theorem zv89 : ∀ w, (zeroValue 89).run prog w = .ok (.agg #[.int .i64 0, S []]) w := zv_of (by kernel_rfl)
end Go.Proofs.YtegmgfljdeabeaaGreatDoor
namespace Go.Proofs
open Go.Shelf
def Tryz.laysC174_ren : Go.Shelf.Ren := ⟨fun | 174 => 62 | 247 => 98 | 245 => 99 | 287 => 128 | 279 => 129 | 280 => 130 | 281 => 131 | 282 => 132 | 321 => 150 | 322 => 151 | 316 => 152 | 171 => 154 | 205 => 153 | 243 => 163 | 246 => 171 | 283 => 181 | 284 => 182 | 285 => 183 | 286 => 184 | 129 => 194 | 317 => 193 | 318 => 195 | 319 => 196 | 320 => 197 | 337 => 198 | 338 => 199 | n => n, fun | 9 => 9 | 3 => 3 | 2 => 2 | 75 => 139 | 85 => 140 | 4 => 4 | 167 => 227 | 5 => 5 | 53 => 228 | 175 => 229 | 46 => 231 | 168 => 232 | 37 => 249 | 0 => 0 | 210 => 251 | 21 => 21 | 127 => 268 | 145 => 271 | 143 => 269 | 171 => 286 | 173 => 289 | 212 => 300 | 51 => 291 | 20 => 20 | 213 => 301 | 232 => 304 | 233 => 305 | 80 => 144 | n => n, fun | 15 => 0 | 16 => 1 | 17 => 3 | 18 => 4 | 19 => 5 | n => n⟩
theorem Tryz.laysC174 : Go.Proofs.LaysC.n174 Tryz.prog Tryz.laysC174_ren := {
  mixed := by kernel_rfl
  f129 := Tryz.func194.trans (congrArg some (by kernel_rfl))
  f171 := Tryz.func154.trans (congrArg some (by kernel_rfl))
  f174 := Tryz.func62.trans (congrArg some (by kernel_rfl))
  f205 := Tryz.func153.trans (congrArg some (by kernel_rfl))
  f243 := Tryz.func163.trans (congrArg some (by kernel_rfl))
  f245 := Tryz.func99.trans (congrArg some (by kernel_rfl))
  f246 := Tryz.func171.trans (congrArg some (by kernel_rfl))
  f247 := Tryz.func98.trans (congrArg some (by kernel_rfl))
  f279 := Tryz.func129.trans (congrArg some (by kernel_rfl))
  f280 := Tryz.func130.trans (congrArg some (by kernel_rfl))
  f281 := Tryz.func131.trans (congrArg some (by kernel_rfl))
  f282 := Tryz.func132.trans (congrArg some (by kernel_rfl))
  f283 := Tryz.func181.trans (congrArg some (by kernel_rfl))
  f284 := Tryz.func182.trans (congrArg some (by kernel_rfl))
  f285 := Tryz.func183.trans (congrArg some (by kernel_rfl))
  f286 := Tryz.func184.trans (congrArg some (by kernel_rfl))
  f287 := Tryz.func128.trans (congrArg some (by kernel_rfl))
  f316 := Tryz.func152.trans (congrArg some (by kernel_rfl))
  f317 := Tryz.func193.trans (congrArg some (by kernel_rfl))
  f318 := Tryz.func195.trans (congrArg some (by kernel_rfl))
  f319 := Tryz.func196.trans (congrArg some (by kernel_rfl))
  f320 := Tryz.func197.trans (congrArg some (by kernel_rfl))
  f321 := Tryz.func150.trans (congrArg some (by kernel_rfl))
  f322 := Tryz.func151.trans (congrArg some (by kernel_rfl))
  f337 := Tryz.func198.trans (congrArg some (by kernel_rfl))
  f338 := Tryz.func199.trans (congrArg some (by kernel_rfl))
  t0 := Tryz.underlying0
  a0 := Tryz.isAgg0
  z0 := Tryz.sizeOf0
  v0 := Tryz.zeroValue0
  t2 := Tryz.underlying2
  a2 := Tryz.isAgg2
  z2 := Tryz.sizeOf2
  v2 := Tryz.zeroValue2
  t3 := Tryz.underlying3
  a3 := Tryz.isAgg3
  z3 := Tryz.sizeOf3
  v3 := Tryz.zeroValue3
  t4 := Tryz.underlying4
  a4 := Tryz.isAgg4
  z4 := Tryz.sizeOf4
  v4 := Tryz.zeroValue4
  t5 := Tryz.underlying5
  a5 := Tryz.isAgg5
  z5 := Tryz.sizeOf5
  v5 := Tryz.zeroValue5
  t9 := Tryz.underlying9
  a9 := Tryz.isAgg9
  z9 := Tryz.sizeOf9
  v9 := Tryz.zeroValue9
  t20 := Tryz.underlying20
  a20 := Tryz.isAgg20
  z20 := Tryz.sizeOf20
  v20 := Tryz.zeroValue20
  t21 := Tryz.underlying21
  a21 := Tryz.isAgg21
  z21 := Tryz.sizeOf21
  v21 := Tryz.zeroValue21
  t37 := Tryz.underlying249
  a37 := Tryz.isAgg249
  z37 := Tryz.sizeOf249
  v37 := Tryz.zeroValue249
  t46 := Tryz.underlying231
  a46 := Tryz.isAgg231
  z46 := Tryz.sizeOf231
  v46 := Tryz.zeroValue231
  t51 := Tryz.underlying291
  a51 := Tryz.isAgg291
  z51 := Tryz.sizeOf291
  v51 := Tryz.zeroValue291
  t53 := Tryz.underlying228
  a53 := Tryz.isAgg228
  z53 := Tryz.sizeOf228
  v53 := Tryz.zeroValue228
  t75 := Tryz.underlying139
  a75 := Tryz.isAgg139
  z75 := Tryz.sizeOf139
  v75 := Tryz.zeroValue139
  t85 := Tryz.underlying140
  a85 := Tryz.isAgg140
  z85 := Tryz.sizeOf140
  v85 := Tryz.zeroValue140
  t127 := Tryz.underlying268
  a127 := Tryz.isAgg268
  z127 := Tryz.sizeOf268
  v127 := Tryz.zeroValue268
  t143 := Tryz.underlying269
  a143 := Tryz.isAgg269
  z143 := Tryz.sizeOf269
  v143 := Tryz.zeroValue269
  t145 := Tryz.underlying271
  a145 := Tryz.isAgg271
  z145 := Tryz.sizeOf271
  v145 := Tryz.zeroValue271
  t167 := Tryz.underlying227
  a167 := Tryz.isAgg227
  z167 := Tryz.sizeOf227
  v167 := Tryz.zeroValue227
  t168 := Tryz.underlying232
  a168 := Tryz.isAgg232
  z168 := Tryz.sizeOf232
  v168 := Tryz.zeroValue232
  t171 := Tryz.underlying286
  a171 := Tryz.isAgg286
  z171 := Tryz.sizeOf286
  v171 := Tryz.zeroValue286
  t173 := Tryz.underlying289
  a173 := Tryz.isAgg289
  z173 := Tryz.sizeOf289
  v173 := Tryz.zeroValue289
  t175 := Tryz.underlying229
  a175 := Tryz.isAgg229
  z175 := Tryz.sizeOf229
  v175 := Tryz.zeroValue229
  t210 := Tryz.underlying251
  a210 := Tryz.isAgg251
  z210 := Tryz.sizeOf251
  v210 := Tryz.zeroValue251
  t212 := Tryz.underlying300
  a212 := Tryz.isAgg300
  z212 := Tryz.sizeOf300
  v212 := Tryz.zeroValue300
  t213 := Tryz.underlying301
  a213 := Tryz.isAgg301
  z213 := Tryz.sizeOf301
  t232 := Tryz.underlying304
  a232 := Tryz.isAgg304
  z232 := Tryz.sizeOf304
  v232 := Tryz.zeroValue304
  t233 := Tryz.underlying305
  a233 := Tryz.isAgg305
  z233 := Tryz.sizeOf305
  v233 := Tryz.zeroValue305
  g15 := by kernel_rfl
  g16 := by kernel_rfl
  g17 := by kernel_rfl
  g18 := by kernel_rfl
  g19 := by kernel_rfl
  t80 := Tryz.underlying144
  a80 := Tryz.isAgg144
  z80 := Tryz.sizeOf144
  v80 := Tryz.zeroValue144
  i0 := by kernel_rfl
  i2 := by kernel_rfl
  i3 := by kernel_rfl
  i4 := by kernel_rfl
  i5 := by kernel_rfl
  i9 := by kernel_rfl
  i20 := by kernel_rfl
  i21 := by kernel_rfl
  i37 := by kernel_rfl
  i46 := by kernel_rfl
  i51 := by kernel_rfl
  i53 := by kernel_rfl
  i75 := by kernel_rfl
  i80 := by kernel_rfl
  i85 := by kernel_rfl
  i127 := by kernel_rfl
  i143 := by kernel_rfl
  i145 := by kernel_rfl
  i167 := by kernel_rfl
  i168 := by kernel_rfl
  i171 := by kernel_rfl
  i173 := by kernel_rfl
  i175 := by kernel_rfl
  i210 := by kernel_rfl
  i212 := by kernel_rfl
  i232 := by kernel_rfl
  i233 := by kernel_rfl
  m15 := by kernel_rfl
  m16 := by kernel_rfl
  m17 := by kernel_rfl
  m18 := by kernel_rfl
  m19 := by kernel_rfl
  c0 := by kernel_rfl
  c2 := by kernel_rfl
  c3 := by kernel_rfl
  c4 := by kernel_rfl
  c5 := by kernel_rfl
  c9 := by kernel_rfl
  c20 := by kernel_rfl
  c21 := by kernel_rfl
  c37 := by kernel_rfl
  c46 := by kernel_rfl
  c51 := by kernel_rfl
  c53 := by kernel_rfl
  c75 := by kernel_rfl
  c80 := by kernel_rfl
  c85 := by kernel_rfl
  c127 := by kernel_rfl
  c143 := by kernel_rfl
  c145 := by kernel_rfl
  c167 := by kernel_rfl
  c168 := by kernel_rfl
  c171 := by kernel_rfl
  c173 := by kernel_rfl
  c175 := by kernel_rfl
  c210 := by kernel_rfl
  c212 := by kernel_rfl
  c213 := by kernel_rfl
  c232 := by kernel_rfl
  c233 := by kernel_rfl }
open Go.RowKit in
theorem Tryz.strconv_ParseInt_10_at64_ok (s : ByteArray) (hmax : s.size ≤ 9223372036854775806) (v : Int) (h : Lib.parseIntB 64 s.data.toList = .ok v) (w : World) :
    Calls Tryz.prog 62 #[.string s, .int .i64 10, .int .i64 64] w fun e w' => e = .returned (.tuple #[.int .i64 v, .nilIface]) ∧ (w' = w ∨ ∃ t, w' = Lib.bytesWorld w 5 t) := Any.strconv_ParseInt_10_at64_ok Tryz.laysC174 s hmax v h w
def Tryz.lays144_ren : Go.Shelf.Ren := ⟨fun | 144 => 134 | 143 => 155 | 219 => 164 | 217 => 172 | 225 => 173 | 224 => 174 | 267 => 175 | 266 => 185 | 314 => 186 | n => n, fun | 9 => 9 | 4 => 4 | 3 => 3 | 5 => 5 | 46 => 231 | 146 => 292 | 51 => 291 | n => n, fun | 1 => 2 | n => n⟩
theorem Tryz.lays144 : Go.Proofs.Lays.n144 Tryz.prog Tryz.lays144_ren := {
  mixed := by kernel_rfl
  f143 := Tryz.func155.trans (congrArg some (by kernel_rfl))
  f144 := Tryz.func134.trans (congrArg some (by kernel_rfl))
  f217 := Tryz.func172.trans (congrArg some (by kernel_rfl))
  f219 := Tryz.func164.trans (congrArg some (by kernel_rfl))
  f224 := Tryz.func174.trans (congrArg some (by kernel_rfl))
  f225 := Tryz.func173.trans (congrArg some (by kernel_rfl))
  f266 := Tryz.func185.trans (congrArg some (by kernel_rfl))
  f267 := Tryz.func175.trans (congrArg some (by kernel_rfl))
  f314 := Tryz.func186.trans (congrArg some (by kernel_rfl))
  t3 := Tryz.underlying3
  a3 := Tryz.isAgg3
  z3 := Tryz.sizeOf3
  v3 := Tryz.zeroValue3
  t4 := Tryz.underlying4
  a4 := Tryz.isAgg4
  z4 := Tryz.sizeOf4
  v4 := Tryz.zeroValue4
  t5 := Tryz.underlying5
  a5 := Tryz.isAgg5
  z5 := Tryz.sizeOf5
  v5 := Tryz.zeroValue5
  t9 := Tryz.underlying9
  a9 := Tryz.isAgg9
  z9 := Tryz.sizeOf9
  v9 := Tryz.zeroValue9
  t46 := Tryz.underlying231
  a46 := Tryz.isAgg231
  z46 := Tryz.sizeOf231
  v46 := Tryz.zeroValue231
  t51 := Tryz.underlying291
  a51 := Tryz.isAgg291
  z51 := Tryz.sizeOf291
  v51 := Tryz.zeroValue291
  t146 := Tryz.underlying292
  a146 := Tryz.isAgg292
  z146 := Tryz.sizeOf292
  v146 := Tryz.zeroValue292
  g1 := by kernel_rfl }
open Go.RowKit Go.Lib in
theorem Tryz.strings_Contains (s sub : ByteArray) (m : Int) (w : World) (hs : s.size < 4294967281) (hm : w.cell? ⟨2, 0, none⟩ = some (.int .i64 m)) :
    Calls Tryz.prog 134 #[.string s, .string sub] w fun e w' => e = .returned (.bool (Lib.contains s.data.toList sub.data.toList)) ∧ w' = w := Any.strings_Contains Tryz.lays144 s sub m w hs hm
def Tryz.lays110_ren : Go.Shelf.Ren := ⟨fun | 110 => 110 | 109 => 142 | n => n, fun | 31 => 189 | 9 => 9 | 4 => 4 | 3 => 3 | 0 => 0 | n => n, fun | n => n⟩
theorem Tryz.lays110 : Go.Proofs.Lays.n110 Tryz.prog Tryz.lays110_ren := {
  mixed := by kernel_rfl
  f109 := Tryz.func142.trans (congrArg some (by kernel_rfl))
  f110 := Tryz.func110.trans (congrArg some (by kernel_rfl))
  t0 := Tryz.underlying0
  a0 := Tryz.isAgg0
  z0 := Tryz.sizeOf0
  v0 := Tryz.zeroValue0
  t3 := Tryz.underlying3
  a3 := Tryz.isAgg3
  z3 := Tryz.sizeOf3
  v3 := Tryz.zeroValue3
  t4 := Tryz.underlying4
  a4 := Tryz.isAgg4
  z4 := Tryz.sizeOf4
  v4 := Tryz.zeroValue4
  t9 := Tryz.underlying9
  a9 := Tryz.isAgg9
  z9 := Tryz.sizeOf9
  v9 := Tryz.zeroValue9
  t31 := Tryz.underlying189
  a31 := Tryz.isAgg189
  z31 := Tryz.sizeOf189
  v31 := Tryz.zeroValue189 }
open Go.Lib in
theorem Tryz.slices_Contains_string (b off n c : Nat) (zs : List ByteArray) (x : ByteArray) (w : World) (hz : n ≤ zs.length) (hbig : n ≤ 9223372036854775807) (hc : ∀ j, j < zs.length → w.cell? ⟨b, off + j, none⟩ = some (.string (zs.getD j ByteArray.empty))) :
    Calls Tryz.prog 110 #[.slice (some ⟨b, off, none⟩) n c, .string x] w fun e w' => e = .returned (.bool (Lib.containsS (zs.take n) x)) ∧ w' = w := Any.slices_Contains_string Tryz.lays110 b off n c zs x w hz hbig hc
open Go.Lib in
theorem Tryz.slices_Contains_string_empty (a : Option Addr) (c : Nat) (x : ByteArray) (w : World) :
    Calls Tryz.prog 110 #[.slice a 0 c, .string x] w fun e w' => e = .returned (.bool false) ∧ w' = w := Any.slices_Contains_string_empty Tryz.lays110 a c x w
def Tryz.laysNm215_ren : Go.Shelf.Ren := ⟨fun | 15 => 117 | n => n, fun | 22 => 30 | 3 => 3 | 4 => 4 | n => n, fun | n => n⟩
theorem Tryz.laysNm215 : Go.Proofs.Lays2.n15 Tryz.prog Tryz.laysNm215_ren := {
  mixed := by kernel_rfl
  f15 := Tryz.func117.trans (congrArg some (by kernel_rfl))
  t3 := Tryz.underlying3
  a3 := Tryz.isAgg3
  z3 := Tryz.sizeOf3
  v3 := Tryz.zeroValue3
  t4 := Tryz.underlying4
  a4 := Tryz.isAgg4
  z4 := Tryz.sizeOf4
  v4 := Tryz.zeroValue4
  t22 := Tryz.underlying30
  a22 := Tryz.isAgg30
  z22 := Tryz.sizeOf30
  v22 := Tryz.zeroValue30
  i3 := by kernel_rfl }
open Go.RowKit Go.Lib in
theorem Tryz.slices_Clone_int (b off n c : Nat) (zs : List Int) (w : World) (hz : n ≤ zs.length) (hbig : n * 8 ≤ 140737488355328) (hc : ∀ j, j < zs.length → w.cell? ⟨b, off + j, none⟩ = some (.int .i64 (zs.getD j 0))) :
    Calls Tryz.prog 117 #[.slice (some ⟨b, off, none⟩) n c] w fun e w' => ∃ v', e = .returned v' ∧ w'.ownsRow w.heap.size 3 1 v' n ((zs.take n).map (Value.int .i64)) ∧ v' ≠ .slice none 0 0 ∧ Below w.heap.size w w' := Any.slices_Clone_int Tryz.laysNm215 b off n c zs w hz hbig hc
open Go.RowKit Go.Lib in
theorem Tryz.slices_Clone_int_nil (n c : Nat) (w : World) :
    Calls Tryz.prog 117 #[.slice none n c] w fun e w' => e = .returned (.slice none 0 0) ∧ w' = w := Any.slices_Clone_int_nil Tryz.laysNm215 n c w
open Go.RowKit Go.Lib in
theorem Tryz.slices_Clone_int_zero (a : Addr) (c : Nat) (w : World) :
    Calls Tryz.prog 117 #[.slice (some a) 0 c] w fun e w' => ∃ v', e = .returned v' ∧ w'.ownsRow w.heap.size 3 1 v' 0 [] ∧ v' ≠ .slice none 0 0 ∧ Below w.heap.size w w' := Any.slices_Clone_int_zero Tryz.laysNm215 a c w
def Tryz.laysSlE041_f118_ren : Go.Shelf.Ren := ⟨fun | 41 => 118 | n => n, fun | 22 => 26 | 23 => 4 | 4 => 4 | n => n, fun | n => n⟩
theorem Tryz.laysSlE041_f118 : Go.Proofs.SlLaysE0.n41 Tryz.prog Tryz.laysSlE041_f118_ren := {
  mixed := by kernel_rfl
  f41 := ⟨Tryz.f118.name, by decide, Tryz.func118.trans (congrArg some (by kernel_rfl))⟩
  t4 := Tryz.underlying4
  a4 := Tryz.isAgg4
  z4 := Tryz.sizeOf4
  v4 := Tryz.zeroValue4
  t22 := Tryz.underlying26
  a22 := Tryz.isAgg26
  z22 := Tryz.sizeOf26
  v22 := Tryz.zeroValue26 }
open Go.RowKit Go.Lib in
theorem Tryz.slices_Clone_f118 (i0 : TypeInfo) (z : Value) (size bytes : Nat) (hi : Tryz.prog.info? 4 = some i0) (hz0 : i0.zero = some z) (hz1 : i0.size = size) (hz2 : i0.bytes = bytes) (hzs : z.cells.size = size) (hsz : 0 < size) (z23 : ∀ w, (Go.sizeOf 4).run Tryz.prog w = .ok size w) (b off n c : Nat) (news : List Value) (w : World) (hl : news.length = n * size) (hn : n ≤ maxLen) (hbig : n * bytes ≤ 140737488355328) (hc : ∀ j u, news[j]? = some u → w.cell? ⟨b, off + j, none⟩ = some u) (h1 : ∀ u ∈ news, u.oneCell' = true) :
    Calls Tryz.prog 118 #[.slice (some ⟨b, off, none⟩) n c] w fun e w' => ∃ v', e = .returned v' ∧ w'.ownsRow w.heap.size 4 size v' n news ∧ v' ≠ .slice none 0 0 ∧ Below w.heap.size w w' := AnyE.slices_Clone Tryz.laysSlE041_f118 i0 z size bytes hi hz0 hz1 hz2 hzs hsz z23 b off n c news w hl hn hbig hc h1
open Go.RowKit Go.Lib in
theorem Tryz.slices_Clone_nil_f118 (n c : Nat) (w : World) :
    Calls Tryz.prog 118 #[.slice none n c] w fun e w' => e = .returned (.slice none 0 0) ∧ w' = w := AnyE.slices_Clone_nil Tryz.laysSlE041_f118 n c w
end Go.Proofs
namespace Go.Proofs.YtegmgfljdeabeaaGreatDoor
open Go.Wk Go.Lx Go.Xt Go.Y Tryz
theorem letter_c (c : UInt8) : CallsP prog 58 [.int .u8 c.toNat] (.bool (letterB c)) := by
  intro w
  refine enter func58 rfl (frm := [_, _, _, _, _, _, _, _, _, _, _, _, _]) rfl ?_
  refine cseq ?_
  refine creg ?_
  refine wl (s_assign ec (dt p2) ?_)
  refine wnil ?_
  refine xn ?_
  refine cseq ?_
  refine creg ?_
  refine wl (s_move (et d0) (dt p3) ?_)
  refine wl (s_geq (et d3) ec (dt p4) ?_)
  refine wl (s_move (et d4) (dt p5) ?_)
  refine wspd d5 p5 p5 (fun g1_2 => ?_) (fun g1_2 => ?_)
  · refine wy rfl d5 (s_move (et d0) (dt p6) ?_)
    refine wy rfl d5 (s_leq (et d6) ec (dt p7) ?_)
    refine wl (s_pickt (et d5) (et d7) (dt p8) ?_)
    refine wl (s_move (et d8) (dt p9) ?_)
    refine wspd d9 p9 p9 (fun g1_6 => ?_) (fun g1_6 => ?_)
    · refine wn rfl d9 rfl (dt (ps p0)) ?_
      refine wn rfl d9 rfl (dt (ps p1)) ?_
      refine wl (s_pickt (et d9) ec (dt (ps p2)) ?_)
      refine wl (s_assign (et (ds d2)) (dt p2) ?_)
      refine wnil ?_
      refine xn ?_
      refine cret ?_
      refine ret1 rfl d2 ?_
      refine ⟨?_, rfl⟩; congr 1; unfold letterB; rw [Bool.eq_iff_iff]; simp; omega
    · refine wy rfl d9 (s_move (et d0) (dt (ps p0)) ?_)
      refine wy rfl d9 (s_eqi (et (ds d0)) ec (dt (ps p1)) ?_)
      refine wl (s_pickf (et d9) (et (ds d1)) (dt (ps p2)) ?_)
      refine wl (s_assign (et (ds d2)) (dt p2) ?_)
      refine wnil ?_
      refine xn ?_
      refine cret ?_
      refine ret1 rfl d2 ?_
      refine ⟨?_, rfl⟩; congr 1; unfold letterB; rw [Bool.eq_iff_iff]; simp; omega
  · refine wn rfl d5 rfl (dt p6) ?_
    refine wn rfl d5 rfl (dt p7) ?_
    refine wl (s_pickf (et d5) ec (dt p8) ?_)
    refine wl (s_move (et d8) (dt p9) ?_)
    refine wy rfl d9 (s_move (et d0) (dt (ps p0)) ?_)
    refine wy rfl d9 (s_eqi (et (ds d0)) ec (dt (ps p1)) ?_)
    refine wl (s_pickf (et d9) (et (ds d1)) (dt (ps p2)) ?_)
    refine wl (s_assign (et (ds d2)) (dt p2) ?_)
    refine wnil ?_
    refine xn ?_
    refine cret ?_
    refine ret1 rfl d2 ?_
    refine ⟨?_, rfl⟩; congr 1; unfold letterB; rw [Bool.eq_iff_iff]; simp; omega
theorem digit_c (c : UInt8) : CallsP prog 61 [.int .u8 c.toNat] (.bool (digitB c)) := by
  intro w
  refine enter func61 rfl (frm := [_, _, _, _, _, _, _, _, _]) rfl ?_
  refine cseq ?_
  refine creg ?_
  refine wl (s_assign ec (dt p2) ?_)
  refine wnil ?_
  refine xn ?_
  refine cseq ?_
  refine creg ?_
  refine wl (s_move (et d0) (dt p3) ?_)
  refine wl (s_geq (et d3) ec (dt p4) ?_)
  refine wl (s_move (et d4) (dt p5) ?_)
  refine wspd d5 p5 p5 (fun g1_2 => ?_) (fun g1_2 => ?_)
  · refine wy rfl d5 (s_move (et d0) (dt p6) ?_)
    refine wy rfl d5 (s_leq (et d6) ec (dt p7) ?_)
    refine wl (s_pickt (et d5) (et d7) (dt p8) ?_)
    refine wl (s_assign (et d8) (dt p2) ?_)
    refine wnil ?_
    refine xn ?_
    refine cret ?_
    refine ret1 rfl d2 ?_
    refine ⟨?_, rfl⟩; congr 1; unfold digitB; rw [Bool.eq_iff_iff]; simp; omega
  · refine wn rfl d5 rfl (dt p6) ?_
    refine wn rfl d5 rfl (dt p7) ?_
    refine wl (s_pickf (et d5) ec (dt p8) ?_)
    refine wl (s_assign (et d8) (dt p2) ?_)
    refine wnil ?_
    refine xn ?_
    refine cret ?_
    refine ret1 rfl d2 ?_
    refine ⟨?_, rfl⟩; congr 1; unfold digitB; rw [Bool.eq_iff_iff]; simp; omega
theorem Tokens1_c (c : UInt8) : CallsP prog 60 [.int .u8 c.toNat] (.bool (wordB c)) := by
  intro w
  refine enter func60 rfl (frm := [_, _, _, _, _, _, _, _, _]) rfl ?_
  refine cseq ?_
  refine creg ?_
  refine wl (s_assign ec (dt p2) ?_)
  refine wnil ?_
  refine xn ?_
  refine cseq ?_
  refine creg ?_
  refine wl (s_move (et d0) (dt p3) ?_)
  refine wl (s_callp isfn58 ef (e1 (et d3) e0) (letter_c _) (dt p4) ?_)
  refine wl (s_move (et d4) (dt p5) ?_)
  refine wsp d5 p5 p5 (fun g1_2 => ?_) (fun g1_2 => ?_)
  · refine wn rfl d5 rfl (dt p6) ?_
    refine wn rfl d5 rfl (dt p7) ?_
    refine wl (s_pickt (et d5) ec (dt p8) ?_)
    refine wl (s_assign (et d8) (dt p2) ?_)
    refine wnil ?_
    refine xn ?_
    refine cret ?_
    refine ret1 rfl d2 ?_
    refine ⟨?_, rfl⟩; simp [wordB, *]
  · refine wy rfl d5 (s_move (et d0) (dt p6) ?_)
    refine wy rfl d5 (s_callp isfn61 ef (e1 (et d6) e0) (digit_c _) (dt p7) ?_)
    refine wl (s_pickf (et d5) (et d7) (dt p8) ?_)
    refine wl (s_assign (et d8) (dt p2) ?_)
    refine wnil ?_
    refine xn ?_
    refine cret ?_
    refine ret1 rfl d2 ?_
    refine ⟨?_, rfl⟩; simp [wordB, *]
theorem Named1_c (c : UInt8) : CallsP prog 135 [.int .u8 c.toNat] (.bool (wordB c)) := by
  intro w
  refine enter func135 rfl (frm := [_, _, _, _, _, _, _, _, _]) rfl ?_
  refine cseq ?_
  refine creg ?_
  refine wl (s_assign ec (dt p2) ?_)
  refine wnil ?_
  refine xn ?_
  refine cseq ?_
  refine creg ?_
  refine wl (s_move (et d0) (dt p3) ?_)
  refine wl (s_callp isfn58 ef (e1 (et d3) e0) (letter_c _) (dt p4) ?_)
  refine wl (s_move (et d4) (dt p5) ?_)
  refine wsp d5 p5 p5 (fun g1_2 => ?_) (fun g1_2 => ?_)
  · refine wn rfl d5 rfl (dt p6) ?_
    refine wn rfl d5 rfl (dt p7) ?_
    refine wl (s_pickt (et d5) ec (dt p8) ?_)
    refine wl (s_assign (et d8) (dt p2) ?_)
    refine wnil ?_
    refine xn ?_
    refine cret ?_
    refine ret1 rfl d2 ?_
    refine ⟨?_, rfl⟩; simp [wordB, *]
  · refine wy rfl d5 (s_move (et d0) (dt p6) ?_)
    refine wy rfl d5 (s_callp isfn61 ef (e1 (et d6) e0) (digit_c _) (dt p7) ?_)
    refine wl (s_pickf (et d5) (et d7) (dt p8) ?_)
    refine wl (s_assign (et d8) (dt p2) ?_)
    refine wnil ?_
    refine xn ?_
    refine cret ?_
    refine ret1 rfl d2 ?_
    refine ⟨?_, rfl⟩; simp [wordB, *]
theorem space1_c (c : UInt8) : CallsP prog 97 [.int .u8 c.toNat] (.bool (lineB c)) := by
  intro w
  refine enter func97 rfl (frm := [_, _, _, _, _]) rfl ?_
  refine cseq ?_
  refine creg ?_
  refine wl (s_assign ec (dt p2) ?_)
  refine wnil ?_
  refine xn ?_
  refine cseq ?_
  refine creg ?_
  refine wl (s_move (et d0) (dt p3) ?_)
  refine wl (s_nei (et d3) ec (dt p4) ?_)
  refine wl (s_assign (et d4) (dt p2) ?_)
  refine wnil ?_
  refine xn ?_
  refine cret ?_
  refine ret1 rfl d2 ?_
  refine ⟨?_, rfl⟩; congr 1; unfold lineB; rw [Bool.eq_iff_iff]; simp; omega
theorem while_c (K : Nat) (p : UInt8 → Bool) (l : List UInt8) (hl : l.length ≤ 9223372036854775807) (hK : IsFn prog K) (hp : ∀ (c : UInt8), CallsP prog K [.int .u8 c.toNat] (.bool (p c))) :
        CallsP prog 59 [S l, .func (.func K) #[] #[]] (.int .i64 (l.takeWhile p).length) := by
  intro w0
  refine enter func59 rfl (frm := [_, _, _, _, _, _, _, _, _, _, _, _, _, _, _, _, _, _, _, _]) rfl ?_
  refine cseq ?_
  refine creg ?_
  refine wl (s_assign ec (dt p4) ?_)
  refine wnil ?_
  refine xn ?_
  refine cseq ?_
  refine creg ?_
  refine wl (s_assign ec (dt p5) ?_)
  refine wnil ?_
  refine xn ?_
  refine cseq ?_
  refine cblock ?_
  refine cloop [6, 7, 8, 9, 10, 11, 12, 13, 14, 15, 16, 17, 18] (by decide) (fun (k : Nat) => [.k, .k, .k, .k, .k, .i (.int .i64 k), .o 6, .o 7, .o 8, .o 9, .o 10, .o 11, .o 12, .o 13, .o 14, .o 15, .o 16, .o 17, .o 18]) (fun _ => rfl) (fun (k : Nat) (w : World) => w = w0 ∧ k ≤ l.length ∧ (l.take k).all p = true) (fun (k : Nat) (w : World) => l.length - k) 0 (Ag.k (Ag.k (Ag.k (Ag.k (Ag.k (Ag.i (Ag.o (Ag.o (Ag.o (Ag.o (Ag.o (Ag.o (Ag.o (Ag.o (Ag.o (Ag.o (Ag.o (Ag.o (Ag.o Ag.z))))))))))))))))))) ?_ ?_
  · exact ⟨rfl, Nat.zero_le _, by simp⟩
  · rintro k t18 w hJ
    obtain ⟨rfl, hk, ha⟩ := hJ
    refine cnrm (mk (mk (mk (mk (mk (mi (mo (mo (mo (mo (mo (mo (mo (mo (mo (mo (mo (mo (mo mz))))))))))))))))))) ?_
    refine cseq ?_
    refine cseq ?_
    refine creg ?_
    refine wl (s_move (et d5) (dt p6) ?_)
    refine wl (s_move (et d0) (dt p7) ?_)
    refine wl (s_lens underlying9 (et d7) (dt p8) ?_)
    refine wl (s_lss (et d6) (et d8) (dt p9) ?_)
    refine wl (s_move (et d9) (dt (ps p0)) ?_)
    refine wspd (ds d0) (ps p0) (ps p0) (fun g2_4 => ?_) (fun g2_4 => ?_)
    · obtain ⟨c, hc⟩ : ∃ c, l[k]? = some c := ⟨_, List.getElem?_eq_getElem (by omega)⟩
      refine wy rfl (ds d0) (s_move (et d1) (dt (ps p1)) ?_)
      refine wy rfl (ds d0) (s_move (et d0) (dt (ps p2)) ?_)
      refine wy rfl (ds d0) (s_move (et d5) (dt (ps p3)) ?_)
      refine wy rfl (ds d0) (s_idxsn underlying9 (et (ds d2)) (et (ds d3)) (by assumption) (dt (ps p4)) ?_)
      refine wy rfl (ds d0) (s_callp hK (et (ds d1)) (e1 (et (ds d4)) e0) (hp c) (dt (ps p5)) ?_)
      refine wl (s_pickt (et (ds d0)) (et (ds d5)) (dt (ps p6)) ?_)
      refine wnil ?_
      refine xn ?_
      refine cif (et (ds d6)) (fun g2_4 => ?_) (fun g2_4 => ?_)
      · refine cskip ?_
        refine xn ?_
        refine cblock ?_
        refine creg ?_
        refine wl (s_move (et d5) (dt (ps p7)) ?_)
        refine wl (s_addn (b := 1) (et (ds d7)) ec (by omega) (dt (ps p8)) ?_)
        refine wl (s_assign (et (ds d8)) (dt p5) ?_)
        refine wnil ?_
        refine (fun h => bn (xl h)) ?_
        exact ⟨k + 1, _, rfl, (Ag.k (Ag.k (Ag.k (Ag.k (Ag.k (Ag.i (Ag.o (Ag.o (Ag.o (Ag.o (Ag.o (Ag.o (Ag.o (Ag.o (Ag.o (Ag.o (Ag.o (Ag.o (Ag.o Ag.z))))))))))))))))))), ⟨rfl, by omega, all_snoc ha hc g2_4⟩, by omega⟩
      · refine cexit ?_
        refine (fun h => xe (xe (bh h))) ?_
        refine xn ?_
        refine cseq ?_
        refine creg ?_
        refine wl (s_move (et d5) (dt (ps p9)) ?_)
        refine wl (s_assign (et (ds d9)) (dt p4) ?_)
        refine wnil ?_
        refine xn ?_
        refine cret ?_
        refine ret1 rfl d4 ?_
        refine ⟨?_, rfl⟩
        first
          | (rw [tw_lt ha hc g2_4]; done)
          | (rw [tw_all (by rw [List.take_of_length_le (by omega)] at ha; exact ha)]; congr 2; omega)
    · refine wn rfl (ds d0) rfl (dt (ps p1)) ?_
      refine wn rfl (ds d0) rfl (dt (ps p2)) ?_
      refine wn rfl (ds d0) rfl (dt (ps p3)) ?_
      refine wn rfl (ds d0) rfl (dt (ps p4)) ?_
      refine wn rfl (ds d0) rfl (dt (ps p5)) ?_
      refine wl (s_pickf (et (ds d0)) ec (dt (ps p6)) ?_)
      refine wnil ?_
      refine xn ?_
      refine ciff (et (ds d6)) ?_
      refine cexit ?_
      refine (fun h => xe (xe (bh h))) ?_
      refine xn ?_
      refine cseq ?_
      refine creg ?_
      refine wl (s_move (et d5) (dt (ps p9)) ?_)
      refine wl (s_assign (et (ds d9)) (dt p4) ?_)
      refine wnil ?_
      refine xn ?_
      refine cret ?_
      refine ret1 rfl d4 ?_
      refine ⟨?_, rfl⟩
      first
        | (rw [tw_lt ha hc g2_4]; done)
        | (rw [tw_all (by rw [List.take_of_length_le (by omega)] at ha; exact ha)]; congr 2; omega)
theorem space_c (l : List UInt8) (hl : l.length ≤ 9223372036854775807) :
        CallsP prog 57 [S l] (.int .i64 (space l)) := by
  intro w0
  refine enter func57 rfl (frm := [_, _, _, _, _, _, _, _, _, _, _, _, _, _, _, _, _, _, _, _, _, _, _, _, _, _, _]) rfl ?_
  refine cseq ?_
  refine creg ?_
  refine wl (s_assign ec (dt p2) ?_)
  refine wnil ?_
  refine xn ?_
  refine cseq ?_
  refine creg ?_
  refine wl (s_assign ec (dt p3) ?_)
  refine wnil ?_
  refine xn ?_
  refine cseq ?_
  refine cblock ?_
  refine cloop [2, 4, 5, 6, 7, 8, 9, 10, 11, 12, 13, 14, 15, 16, 17, 18, 19, 20, 21, 22, 23, 24, 25] (by decide) (fun (k : Nat) => [.k, .k, .o 2, .i (.int .i64 k), .o 4, .o 5, .o 6, .o 7, .o 8, .o 9, .o 10, .o 11, .o 12, .o 13, .o 14, .o 15, .o 16, .o 17, .o 18, .o 19, .o 20, .o 21, .o 22, .o 23, .o 24, .o 25]) (fun _ => rfl) (fun (k : Nat) (w : World) => w = w0 ∧ k ≤ l.length ∧ space l = k + space (l.drop k)) (fun (k : Nat) (w : World) => l.length - k) 0 (Ag.k (Ag.k (Ag.o (Ag.i (Ag.o (Ag.o (Ag.o (Ag.o (Ag.o (Ag.o (Ag.o (Ag.o (Ag.o (Ag.o (Ag.o (Ag.o (Ag.o (Ag.o (Ag.o (Ag.o (Ag.o (Ag.o (Ag.o (Ag.o (Ag.o (Ag.o Ag.z)))))))))))))))))))))))))) ?_ ?_
  · exact ⟨rfl, Nat.zero_le _, by simp⟩
  · rintro k t25 w hJ
    obtain ⟨rfl, hk, ha⟩ := hJ
    refine cnrm (mk (mk (mo (mi (mo (mo (mo (mo (mo (mo (mo (mo (mo (mo (mo (mo (mo (mo (mo (mo (mo (mo (mo (mo (mo (mo mz)))))))))))))))))))))))))) ?_
    refine cseq ?_
    refine cseq ?_
    refine creg ?_
    refine wl (s_move (et d3) (dt p4) ?_)
    refine wl (s_move (et d0) (dt p5) ?_)
    refine wl (s_lens underlying9 (et d5) (dt p6) ?_)
    refine wl (s_lss (et d4) (et d6) (dt p7) ?_)
    refine wnil ?_
    refine xn ?_
    refine cifd (et d7) (fun h0 => ?_) (fun h0 => ?_)
    · obtain ⟨c, hc⟩ : ∃ c, l[k]? = some c := ⟨_, List.getElem?_eq_getElem (by omega)⟩
      have hd : l.drop k = c :: l.drop (k + 1) := by rw [List.drop_eq_getElem_cons (by omega), ← Option.some.inj ((List.getElem?_eq_getElem (by omega)).symm.trans hc)]
      refine cskip ?_
      refine xn ?_
      refine cblock ?_
      refine cseq ?_
      refine creg ?_
      refine wl (s_move (et d0) (dt p8) ?_)
      refine wl (s_move (et d3) (dt p9) ?_)
      refine wl (s_idxsn underlying9 (et d8) (et d9) (by assumption) (dt (ps p0)) ?_)
      refine wnil ?_
      refine xn ?_
      refine cblock ?_
      refine cseq ?_
      refine cseq ?_
      refine creg ?_
      refine wl (s_eqi (et (ds d0)) ec (dt (ps p3)) ?_)
      refine wl (s_assign (et (ds d3)) (dt (ps p2)) ?_)
      refine wnil ?_
      refine xn ?_
      refine cifd (et (ds d2)) (fun h1 => ?_) (fun h1 => ?_)
      · refine cskip ?_
        refine xn ?_
        refine cifdt (et (ds d2)) h1 ?_
        refine creg ?_
        refine wl (s_move (et d3) (dt (ps p6)) ?_)
        refine wl (s_addn (b := 1) (et (ds d6)) ec (by omega) (dt (ps p7)) ?_)
        refine wl (s_assign (et (ds d7)) (dt p3) ?_)
        refine wnil ?_
        refine (fun h => bn (bn (xl h))) ?_
        first
          | exact ⟨k + 1, _, rfl, (Ag.k (Ag.k (Ag.o (Ag.i (Ag.o (Ag.o (Ag.o (Ag.o (Ag.o (Ag.o (Ag.o (Ag.o (Ag.o (Ag.o (Ag.o (Ag.o (Ag.o (Ag.o (Ag.o (Ag.o (Ag.o (Ag.o (Ag.o (Ag.o (Ag.o (Ag.o Ag.z)))))))))))))))))))))))))), ⟨rfl, by omega, by rw [ha, hd, space_blank (by simp [blankB]; omega)]; omega⟩, by omega⟩
          | exact ⟨k + ((l.drop k).takeWhile lineB).length, _, rfl, (Ag.k (Ag.k (Ag.o (Ag.i (Ag.o (Ag.o (Ag.o (Ag.o (Ag.o (Ag.o (Ag.o (Ag.o (Ag.o (Ag.o (Ag.o (Ag.o (Ag.o (Ag.o (Ag.o (Ag.o (Ag.o (Ag.o (Ag.o (Ag.o (Ag.o (Ag.o Ag.z)))))))))))))))))))))))))), ⟨rfl, by omega, by rw [ha, hd, space_remark (by omega), ← hd, List.drop_drop]; omega⟩, by omega⟩
      · refine cseq ?_
        refine creg ?_
        refine wl (s_eqi (et (ds d0)) ec (dt (ps p4)) ?_)
        refine wl (s_assign (et (ds d4)) (dt (ps p2)) ?_)
        refine wnil ?_
        refine xn ?_
        refine cifd (et (ds d2)) (fun h2 => ?_) (fun h2 => ?_)
        · refine cskip ?_
          refine xn ?_
          refine cifdt (et (ds d2)) h2 ?_
          refine creg ?_
          refine wl (s_move (et d3) (dt (ps p6)) ?_)
          refine wl (s_addn (b := 1) (et (ds d6)) ec (by omega) (dt (ps p7)) ?_)
          refine wl (s_assign (et (ds d7)) (dt p3) ?_)
          refine wnil ?_
          refine (fun h => bn (bn (xl h))) ?_
          first
            | exact ⟨k + 1, _, rfl, (Ag.k (Ag.k (Ag.o (Ag.i (Ag.o (Ag.o (Ag.o (Ag.o (Ag.o (Ag.o (Ag.o (Ag.o (Ag.o (Ag.o (Ag.o (Ag.o (Ag.o (Ag.o (Ag.o (Ag.o (Ag.o (Ag.o (Ag.o (Ag.o (Ag.o (Ag.o Ag.z)))))))))))))))))))))))))), ⟨rfl, by omega, by rw [ha, hd, space_blank (by simp [blankB]; omega)]; omega⟩, by omega⟩
            | exact ⟨k + ((l.drop k).takeWhile lineB).length, _, rfl, (Ag.k (Ag.k (Ag.o (Ag.i (Ag.o (Ag.o (Ag.o (Ag.o (Ag.o (Ag.o (Ag.o (Ag.o (Ag.o (Ag.o (Ag.o (Ag.o (Ag.o (Ag.o (Ag.o (Ag.o (Ag.o (Ag.o (Ag.o (Ag.o (Ag.o (Ag.o Ag.z)))))))))))))))))))))))))), ⟨rfl, by omega, by rw [ha, hd, space_remark (by omega), ← hd, List.drop_drop]; omega⟩, by omega⟩
        · refine creg ?_
          refine wl (s_eqi (et (ds d0)) ec (dt (ps p5)) ?_)
          refine wl (s_assign (et (ds d5)) (dt (ps p2)) ?_)
          refine wnil ?_
          refine xn ?_
          refine cifd (et (ds d2)) (fun h3 => ?_) (fun h3 => ?_)
          · refine creg ?_
            refine wl (s_move (et d3) (dt (ps p6)) ?_)
            refine wl (s_addn (b := 1) (et (ds d6)) ec (by omega) (dt (ps p7)) ?_)
            refine wl (s_assign (et (ds d7)) (dt p3) ?_)
            refine wnil ?_
            refine (fun h => bn (bn (xl h))) ?_
            first
              | exact ⟨k + 1, _, rfl, (Ag.k (Ag.k (Ag.o (Ag.i (Ag.o (Ag.o (Ag.o (Ag.o (Ag.o (Ag.o (Ag.o (Ag.o (Ag.o (Ag.o (Ag.o (Ag.o (Ag.o (Ag.o (Ag.o (Ag.o (Ag.o (Ag.o (Ag.o (Ag.o (Ag.o (Ag.o Ag.z)))))))))))))))))))))))))), ⟨rfl, by omega, by rw [ha, hd, space_blank (by simp [blankB]; omega)]; omega⟩, by omega⟩
              | exact ⟨k + ((l.drop k).takeWhile lineB).length, _, rfl, (Ag.k (Ag.k (Ag.o (Ag.i (Ag.o (Ag.o (Ag.o (Ag.o (Ag.o (Ag.o (Ag.o (Ag.o (Ag.o (Ag.o (Ag.o (Ag.o (Ag.o (Ag.o (Ag.o (Ag.o (Ag.o (Ag.o (Ag.o (Ag.o (Ag.o (Ag.o Ag.z)))))))))))))))))))))))))), ⟨rfl, by omega, by rw [ha, hd, space_remark (by omega), ← hd, List.drop_drop]; omega⟩, by omega⟩
          · refine cseq ?_
            refine creg ?_
            refine wl (s_eqi (et (ds d0)) ec (dt (ps p9)) ?_)
            refine wl (s_assign (et (ds d9)) (dt (ps p8)) ?_)
            refine wnil ?_
            refine xn ?_
            refine cifd (et (ds d8)) (fun h4 => ?_) (fun h4 => ?_)
            · have hw : ((l.drop k).takeWhile lineB).length ≤ (l.drop k).length := (List.takeWhile_sublist _).length_le
              have hw0 : 0 < ((l.drop k).takeWhile lineB).length := by rw [hd, List.takeWhile_cons, if_pos (by simp [lineB]; omega)]; simp
              rw [List.length_drop] at hw
              refine creg ?_
              refine wl (s_move (et d3) (dt (ps (ps p0))) ?_)
              refine wl (s_move (et d0) (dt (ps (ps p1))) ?_)
              refine wl (s_move (et d3) (dt (ps (ps p2))) ?_)
              refine wl (s_cutlon underlying9 (et (ds (ds d1))) (et (ds (ds d2))) (by omega) (dt (ps (ps p3))) ?_)
              refine wl (s_callp isfn59 ef (e1 (et (ds (ds d3))) (e1 ef e0)) (while_c _ lineB _ (by rw [List.length_drop]; omega) isfn97 space1_c) (dt (ps (ps p4))) ?_)
              refine wl (s_addn (et (ds (ds d0))) (et (ds (ds d4))) (by omega) (dt (ps (ps p5))) ?_)
              refine wl (s_assign (et (ds (ds d5))) (dt p3) ?_)
              refine wnil ?_
              refine (fun h => bn (bn (xl h))) ?_
              first
                | exact ⟨k + 1, _, rfl, (Ag.k (Ag.k (Ag.o (Ag.i (Ag.o (Ag.o (Ag.o (Ag.o (Ag.o (Ag.o (Ag.o (Ag.o (Ag.o (Ag.o (Ag.o (Ag.o (Ag.o (Ag.o (Ag.o (Ag.o (Ag.o (Ag.o (Ag.o (Ag.o (Ag.o (Ag.o Ag.z)))))))))))))))))))))))))), ⟨rfl, by omega, by rw [ha, hd, space_blank (by simp [blankB]; omega)]; omega⟩, by omega⟩
                | exact ⟨k + ((l.drop k).takeWhile lineB).length, _, rfl, (Ag.k (Ag.k (Ag.o (Ag.i (Ag.o (Ag.o (Ag.o (Ag.o (Ag.o (Ag.o (Ag.o (Ag.o (Ag.o (Ag.o (Ag.o (Ag.o (Ag.o (Ag.o (Ag.o (Ag.o (Ag.o (Ag.o (Ag.o (Ag.o (Ag.o (Ag.o Ag.z)))))))))))))))))))))))))), ⟨rfl, by omega, by rw [ha, hd, space_remark (by omega), ← hd, List.drop_drop]; omega⟩, by omega⟩
            · refine cseq ?_
              refine creg ?_
              refine wl (s_move (et d3) (dt (ps p1)) ?_)
              refine wl (s_assign (et (ds d1)) (dt p2) ?_)
              refine wnil ?_
              refine xn ?_
              refine cret ?_
              refine (fun h => br (br (xr (br (xr h))))) ?_
              refine ret1 rfl d2 ?_
              refine ⟨?_, rfl⟩
              first
                | (rw [ha, hd, space_stop (by simp [blankB]; omega) (by omega)]; rfl)
                | (rw [ha, List.drop_eq_nil_of_le (by omega)]; rfl)
    · refine cexit ?_
      refine (fun h => xe (xe (bh h))) ?_
      refine xn ?_
      refine cseq ?_
      refine creg ?_
      refine wl (s_move (et d3) (dt (ps (ps p6))) ?_)
      refine wl (s_assign (et (ds (ds d6))) (dt p2) ?_)
      refine wnil ?_
      refine xn ?_
      refine cret ?_
      refine ret1 rfl d2 ?_
      refine ⟨?_, rfl⟩
      first
        | (rw [ha, hd, space_stop (by simp [blankB]; omega) (by omega)]; rfl)
        | (rw [ha, List.drop_eq_nil_of_le (by omega)]; rfl)
theorem hasPrefix0_c (l p : List UInt8) (hl : l.length ≤ 9223372036854775807) (hp : p.length ≤ 9223372036854775807) : CallsP prog 133 [S l, S p] (.bool (p.isPrefixOf l)) := by
  intro w
  refine enter func133 rfl (frm := [_, _, _, _, _, _, _, _, _, _, _, _, _, _, _, _, _, _]) rfl ?_
  refine cseq ?_
  refine creg ?_
  refine wl (s_assign ec (dt p4) ?_)
  refine wnil ?_
  refine xn ?_
  refine cseq ?_
  refine creg ?_
  refine wl (s_move (et d0) (dt p5) ?_)
  refine wl (s_lens underlying9 (et d5) (dt p6) ?_)
  refine wl (s_move (et d1) (dt p7) ?_)
  refine wl (s_lens underlying9 (et d7) (dt p8) ?_)
  refine wl (s_geq (et d6) (et d8) (dt p9) ?_)
  refine wl (s_move (et d9) (dt (ps p0)) ?_)
  refine wspd (ds d0) (ps p0) (ps p0) (fun g1_5 => ?_) (fun g1_5 => ?_)
  · refine wy rfl (ds d0) (s_move (et d0) (dt (ps p1)) ?_)
    refine wy rfl (ds d0) (s_move (et d1) (dt (ps p2)) ?_)
    refine wy rfl (ds d0) (s_lens underlying9 (et (ds d2)) (dt (ps p3)) ?_)
    refine wy rfl (ds d0) (s_cuthin underlying9 (et (ds d1)) (et (ds d3)) (by omega) (dt (ps p4)) ?_)
    refine wy rfl (ds d0) (s_move (et d1) (dt (ps p5)) ?_)
    refine wy rfl (ds d0) (s_eqs (et (ds d4)) (et (ds d5)) (dt (ps p6)) ?_)
    refine wl (s_pickt (et (ds d0)) (et (ds d6)) (dt (ps p7)) ?_)
    refine wl (s_assign (et (ds d7)) (dt p4) ?_)
    refine wnil ?_
    refine xn ?_
    refine cret ?_
    refine ret1 rfl d4 ?_
    refine ⟨?_, rfl⟩; congr 1
    first
      | exact pre_take l p
      | exact (pre_short l p (by omega)).symm
  · refine wn rfl (ds d0) rfl (dt (ps p1)) ?_
    refine wn rfl (ds d0) rfl (dt (ps p2)) ?_
    refine wn rfl (ds d0) rfl (dt (ps p3)) ?_
    refine wn rfl (ds d0) rfl (dt (ps p4)) ?_
    refine wn rfl (ds d0) rfl (dt (ps p5)) ?_
    refine wn rfl (ds d0) rfl (dt (ps p6)) ?_
    refine wl (s_pickf (et (ds d0)) ec (dt (ps p7)) ?_)
    refine wl (s_assign (et (ds d7)) (dt p4) ?_)
    refine wnil ?_
    refine xn ?_
    refine cret ?_
    refine ret1 rfl d4 ?_
    refine ⟨?_, rfl⟩; congr 1
    first
      | exact pre_take l p
      | exact (pre_short l p (by omega)).symm
theorem hasPrefix_c (l p : List UInt8) (hl : l.length ≤ 9223372036854775807) (hp : p.length ≤ 9223372036854775807) : CallsP prog 100 [S l, S p] (.bool (p.isPrefixOf l)) := by
  intro w
  refine enter func100 rfl (frm := [_, _, _, _, _, _, _, _]) rfl ?_
  refine cseq ?_
  refine creg ?_
  refine wl (s_assign ec (dt p4) ?_)
  refine wnil ?_
  refine xn ?_
  refine cseq ?_
  refine creg ?_
  refine wl (s_move (et d0) (dt p5) ?_)
  refine wl (s_move (et d1) (dt p6) ?_)
  refine wl (s_callp isfn133 ef (e1 (et d5) (e1 (et d6) e0)) (hasPrefix0_c _ _ hl hp) (dt p7) ?_)
  refine wl (s_assign (et d7) (dt p4) ?_)
  refine wnil ?_
  refine xn ?_
  refine cret ?_
  refine ret1 rfl d4 ?_
  exact ⟨rfl, rfl⟩
theorem sign_c (l : List UInt8) (hl : l.length ≤ 9223372036854775807) (w0 : World) :
        CallsV prog 63 [S l] w0 fun v w => v = S (sign l) ∧ Grow w0 w := by
  have hS : Sep (fun _ => True) (fun _ => True) w0 w0 [] (fun _ => True) := Sep.start w0 _ _ (Rob.const trivial)
  refine enter func63 rfl (frm := [_, _, _, _, _, _, _, _, _, _, _, _, _, _, _, _]) rfl ?_
  refine cseq ?_
  refine creg ?_
  refine wl (s_assign ec (dt p2) ?_)
  refine wnil ?_
  refine xn ?_
  refine cseq ?_
  refine cseq ?_
  refine creg ?_
  refine wl (s_bsl underlying189 ti9 (Parts.s ec rfl (Parts.s ec rfl (Parts.s ec rfl (Parts.s ec rfl (Parts.s ec rfl (Parts.s ec rfl (Parts.s ec rfl (Parts.s ec rfl (Parts.s ec rfl (Parts.s ec rfl (Parts.s ec rfl (Parts.s ec rfl (Parts.s ec rfl (Parts.s ec rfl (Parts.s ec rfl (Parts.s ec rfl (Parts.s ec rfl (Parts.s ec rfl Parts.z)))))))))))))))))) rfl rfl hS ?_)
  clear hS; intro b1 w1_ hb1 hS
  refine pu (dt p5) ?_
  refine wl (s_lensl underlying189 (et d5) (dt p6) ?_)
  refine wl (s_move ec (dt p7) ?_)
  refine wnil ?_
  refine xn ?_
  refine cblock ?_
  refine cloop [2, 4, 8, 9, 10, 11, 12, 13, 14, 15] (by decide) (fun (k : Nat) => [.k, .k, .o 2, .k, .o 4, .k, .k, .i (.int .i64 k), .o 8, .o 9, .o 10, .o 11, .o 12, .o 13, .o 14, .o 15]) (fun _ => rfl) (fun (k : Nat) (w : World) => k ≤ 18 ∧ (∀ y ∈ signs.take k, y.isPrefixOf l = false) ∧ Sep (fun _ => True) (fun _ => True) w0 w [.blk b1 9 (signs.map S)] (fun _ => True)) (fun (k : Nat) (w : World) => 18 - k) 0 (Ag.k (Ag.k (Ag.o (Ag.k (Ag.o (Ag.k (Ag.k (Ag.i (Ag.o (Ag.o (Ag.o (Ag.o (Ag.o (Ag.o (Ag.o (Ag.o Ag.z)))))))))))))))) ?_ ?_
  · exact ⟨Nat.zero_le _, by simp, hS⟩
  · rintro k t15 w hJ
    obtain ⟨hk, ha, hS⟩ := hJ
    refine cnrm (mk (mk (mo (mk (mo (mk (mk (mi (mo (mo (mo (mo (mo (mo (mo (mo mz)))))))))))))))) ?_
    refine cseq ?_
    refine creg ?_
    refine wl (s_lss (et d7) (et d6) (dt p8) ?_)
    refine wnil ?_
    refine xn ?_
    refine cseq ?_
    refine cifd (et d8) (fun h0 => ?_) (fun h0 => ?_)
    · obtain ⟨x, hx⟩ : ∃ x, signs[k]? = some x := ⟨_, List.getElem?_eq_getElem (show k < signs.length from by show k < 18; omega)⟩
      have hxl : x.length ≤ 2 := sign_short x (List.mem_of_getElem? hx)
      have hc : Lk (signs.map S) k (S x) := by unfold Lk; rw [List.getElem?_map, hx]; rfl
      refine cskip ?_
      refine xn ?_
      refine cseq ?_
      refine cblock ?_
      refine cseq ?_
      refine creg ?_
      refine wl (s_ia underlying189 ti9 (et d5) (et d7) (by omega) rfl (dt p9) ?_)
      refine wl (s_load ti9 (et d9) ((hS.blk d0).cell (j := _) (by simpa using hc)) (dt (ps p0)) ?_)
      refine wl (s_assign (et (ds d0)) (dt p4) ?_)
      refine wnil ?_
      refine xn ?_
      refine cseq ?_
      refine creg ?_
      refine wl (s_move (et d0) (dt (ps p1)) ?_)
      refine wl (s_move (et d4) (dt (ps p2)) ?_)
      refine wl (s_callp isfn100 ef (e1 (et (ds d1)) (e1 (et (ds d2)) e0)) (hasPrefix_c _ _ hl (by omega)) (dt (ps p3)) ?_)
      refine wnil ?_
      refine xn ?_
      refine cif (et (ds d3)) (fun h1 => ?_) (fun h1 => ?_)
      · refine cseq ?_
        refine creg ?_
        refine wl (s_move (et d4) (dt (ps p4)) ?_)
        refine wl (s_assign (et (ds d4)) (dt p2) ?_)
        refine wnil ?_
        refine xn ?_
        refine cret ?_
        refine (fun h => br (xr (xr (br (xr h))))) ?_
        refine ret1 rfl d2 ?_
        first
          | exact ⟨by rw [sign_hit ha hx h1], hS.keeps⟩
          | exact ⟨by rw [sign_miss (by rw [show k = 18 by omega] at ha; exact ha)]; rfl, hS.keeps⟩
      · refine cskip ?_
        refine (fun h => bn (xn h)) ?_
        refine creg ?_
        refine wl (s_addn (b := 1) (et d7) ec (by omega) (dt (ps p5)) ?_)
        refine wl (s_move (et (ds d5)) (dt p7) ?_)
        refine wnil ?_
        refine xl ?_
        exact ⟨k + 1, _, rfl, (Ag.k (Ag.k (Ag.o (Ag.k (Ag.o (Ag.k (Ag.k (Ag.i (Ag.o (Ag.o (Ag.o (Ag.o (Ag.o (Ag.o (Ag.o (Ag.o Ag.z)))))))))))))))), ⟨by omega, by
          intro y hy
          rw [List.take_add_one, hx] at hy
          rcases List.mem_append.1 hy with h | h
          · exact ha y h
          · simp at h; subst h; exact h1, hS⟩, by omega⟩
    · refine cexit ?_
      refine (fun h => xe (xe (bh h))) ?_
      refine xn ?_
      refine cseq ?_
      refine creg ?_
      refine wl (s_assign ec (dt p2) ?_)
      refine wnil ?_
      refine xn ?_
      refine cret ?_
      refine ret1 rfl d2 ?_
      first
        | exact ⟨by rw [sign_hit ha hx h1], hS.keeps⟩
        | exact ⟨by rw [sign_miss (by rw [show k = 18 by omega] at ha; exact ha)]; rfl, hS.keeps⟩
theorem parse_ok' (t : List UInt8) : ∀ acc k, acc < 10 ^ k → k + t.length ≤ 15 → t.all digitB = true → Lib.parseUintM (2 ^ 64 - 1) acc t = .ok (valFrom acc t) := by
  induction t with
  | nil => intro acc k _ _ _; rfl
  | cons c t ih =>
    intro acc k ha hk hd
    simp only [List.all_cons, Bool.and_eq_true] at hd
    have hc : 48 ≤ c.toNat ∧ c.toNat ≤ 57 := by simpa [digitB] using hd.1
    have h14 : acc < 10 ^ 14 := Nat.lt_of_lt_of_le ha (Nat.pow_le_pow_right (by decide) (by simp at hk; omega))
    unfold Lib.parseUintM
    rw [if_pos hc, if_neg (by omega), if_neg (by omega)]
    exact ih _ (k + 1) (by rw [Nat.pow_succ]; omega) (by simp at hk; omega) hd.2
theorem parse_ok (t : List UInt8) (h0 : t ≠ []) (h : t.length ≤ 15) (hd : t.all digitB = true) : Lib.parseIntB 64 t = .ok (val t : Nat) := by
  cases t with
  | nil => exact absurd rfl h0
  | cons c t =>
    have hc : 48 ≤ c.toNat ∧ c.toNat ≤ 57 := by simpa [digitB] using (List.all_eq_true.1 hd) c (by simp)
    have hv := val_lt (c :: t) 0 0 (by decide) hd
    have h2 : (10 : Nat) ^ (0 + (c :: t).length) ≤ 10 ^ 15 := Nat.pow_le_pow_right (by decide) (by omega)
    have hu := parse_ok' (c :: t) 0 0 (by decide) (by simpa using h) hd
    unfold Lib.parseIntB
    simp only
    rw [if_neg (by omega)]
    unfold Lib.parseUintB
    rw [if_neg (by simp), hu]
    simp only
    rw [if_neg (by omega), if_neg (by omega), if_neg (by omega)]
    rfl
theorem grow_bytes (w : World) (e : TypeId) (s : ByteArray) : Grow w (Lib.bytesWorld w e s) := by
  have h := Lib.bytesWorld_below w e s
  exact ⟨h.os, h.tape, h.output, h.size, fun k hk _ => h.block k hk⟩
theorem parseInt_c (t : List UInt8) (h0 : t ≠ []) (h : t.length ≤ 15) (hd : t.all digitB = true) (w0 : World) :
    CallsV prog 62 [S t, .int .i64 10, .int .i64 64] w0 fun v w => v = .tuple #[.int .i64 (val t), .nilIface] ∧ Grow w0 w :=
  ⟨(strconv_ParseInt_10_at64_ok ⟨⟨t⟩⟩ (by show t.length ≤ _; omega) _ (parse_ok t h0 h hd) w0).mono fun e w he => by
    obtain ⟨rfl, rfl | ⟨b, rfl⟩⟩ := he
    · exact ⟨rfl, .refl _⟩
    · exact ⟨rfl, grow_bytes _ _ _⟩⟩
def cells (t : Tok) : List Value := [.int .i64 t.kind, S t.text, .int .i64 t.num, .int .i64 t.pos]
def Toks (v : Value) (ts : List Tok) (w : World) : Prop := Row w v 135 4 ts.length (ts.flatMap cells)
theorem map_app {ε : Type} {ts : List Tok} {t : Tok} (r : Except ε (List Tok)) : (r.map (t :: ·)).map (ts ++ ·) = r.map ((ts ++ [t]) ++ ·) := by
  cases r <;> simp [Except.map]
theorem Tokens_c (l : List UInt8) (hl : l.length ≤ 140737488355328) (w0 : World) :
        CallsV prog 32 [S l] w0 fun v w => Grow w0 w ∧ match tokens l with
          | .error (e, a) => v = .tuple #[.slice none 0 0, .agg #[.int .i64 (e : Nat), .int .i64 (a : Nat)]]
          | .ok ts => ∃ u, v = .tuple #[u, .agg #[.int .i64 0, .int .i64 0]] ∧ ts.length ≤ l.length ∧ Rob (fun b => w0.heap.size ≤ b) w (Toks u ts) := by
  have hS : Sep (fun _ => True) (fun _ => False) w0 w0 [] (fun _ => True) := Sep.start w0 _ _ (Rob.const trivial)
  rw [tokens_eq]
  have hsp := space_le l
  refine enter func32 rfl (frm := [_, _, _, _, _, _, _, _, _, _, _, _, _, _, _, _, _, _, _, _, _, _, _, _, _, _, _, _, _, _, _, _, _, _, _, _, _, _, _, _, _, _, _, _, _, _, _, _, _, _, _, _, _, _, _, _, _, _, _, _, _, _, _, _, _, _, _, _, _, _, _, _, _, _, _, _, _, _, _, _, _, _, _]) rfl ?_
  refine cseq ?_
  refine creg ?_
  refine wl (s_assign ec (dt p2) ?_)
  refine wl (s_alloc ti47 hS ?_)
  clear hS; intro b1 w1_ hb1 hS
  refine pu (dt p3) ?_
  refine wnil ?_
  refine xn ?_
  refine cseq ?_
  refine cseq ?_
  refine creg ?_
  refine wl (s_move (et d0) (dt p9) ?_)
  refine wl (s_lens underlying9 (et d9) (dt (ps p0)) ?_)
  refine wl (s_gtr (et (ds d0)) ec (dt (ps p1)) ?_)
  refine wnil ?_
  refine xn ?_
  refine cifd (et (ds d1)) (fun h0 => ?_) (fun h0 => ?_)
  · refine cseq ?_
    refine creg ?_
    refine wl (s_build ti47 pl47 (Fl.o rfl ec rfl rfl p0 Fl.z) (dt (ps p2)) ?_)
    refine wl (s_assign ec (dt p2) ?_)
    refine wl (s_store ti47 (et d3) (et (ds d2)) rfl rfl rfl hS d0 (Spl.s p0 (of_decide_eq_true rfl) (Spl.s p1 (of_decide_eq_true rfl) Spl.z)) rfl p0 dn ?_)
    clear hS; intro w2_ hS
    refine wnil ?_
    refine xn ?_
    refine cret ?_
    refine xr ?_
    refine retN rfl (RVs.s (.t d2) (RVs.s (.a d3 ti47 (hS.blk d0).cells rfl) RVs.z)) ?_
    first
      | (rw [if_pos (by omega)]; exact ⟨hS.keeps, rfl⟩)
      | (rw [if_neg (by omega), hr, lexr_err hne ht]; exact ⟨hS.keeps, rfl⟩)
      | (rw [if_neg (by omega), hr, List.drop_eq_nil_of_le (by omega), lexr_nil]; exact ⟨hS.keeps, _, rfl, by simp; omega, by simpa using hS.give d0 (B := Toks v ts) fun _ h => h⟩)
  · refine cskip ?_
    refine xn ?_
    refine cseq ?_
    refine creg ?_
    replace hS := hS.nilRow 135 4
    refine wl (s_assign ec (dt p4) ?_)
    refine wnil ?_
    refine xn ?_
    refine cseq ?_
    refine cseq ?_
    refine creg ?_
    refine wl (s_move (et d0) (dt (ps p3)) ?_)
    refine wl (s_callp isfn57 ef (e1 (et (ds d3)) e0) (space_c _ (by omega)) (dt (ps p4)) ?_)
    refine wl (s_assign (et (ds d4)) (dt p5) ?_)
    refine wnil ?_
    refine xn ?_
    refine cblock ?_
    refine cloop [2, 6, 7, 8, 15, 16, 17, 18, 19, 20, 21, 22, 23, 24, 25, 26, 27, 28, 29, 30, 31, 32, 33, 34, 35, 36, 37, 38, 39, 40, 41, 42, 43, 44, 45, 46, 47, 48, 49, 50, 51, 52, 53, 54, 55, 56, 57, 58, 59, 60, 61, 62, 63, 64, 65, 66, 67, 68, 69, 70, 71, 72, 73, 74, 75, 76, 77, 78, 79, 80] (by decide +kernel) (fun (x : Nat × List Tok × Value) => [.k, .k, .o 2, .k, .i (x.2.2), .i (.int .i64 x.1), .o 6, .o 7, .o 8, .k, .k, .k, .k, .k, .k, .o 15, .o 16, .o 17, .o 18, .o 19, .o 20, .o 21, .o 22, .o 23, .o 24, .o 25, .o 26, .o 27, .o 28, .o 29, .o 30, .o 31, .o 32, .o 33, .o 34, .o 35, .o 36, .o 37, .o 38, .o 39, .o 40, .o 41, .o 42, .o 43, .o 44, .o 45, .o 46, .o 47, .o 48, .o 49, .o 50, .o 51, .o 52, .o 53, .o 54, .o 55, .o 56, .o 57, .o 58, .o 59, .o 60, .o 61, .o 62, .o 63, .o 64, .o 65, .o 66, .o 67, .o 68, .o 69, .o 70, .o 71, .o 72, .o 73, .o 74, .o 75, .o 76, .o 77, .o 78, .o 79, .o 80]) (fun _ => rfl) (fun (x : Nat × List Tok × Value) (w : World) => x.1 ≤ l.length ∧ x.2.1.length ≤ x.1 ∧ lexr (space l) (l.drop (space l)) = (lexr x.1 (l.drop x.1)).map (x.2.1 ++ ·) ∧ Sep (fun _ => True) (fun _ => False) w0 w [.row x.2.2 135 4 x.2.1.length (x.2.1.flatMap cells), .blk b1 47 [.int .i64 0, .int .i64 0]] (fun _ => True)) (fun (x : Nat × List Tok × Value) (w : World) => l.length - x.1) (space l, [], .slice none 0 0) (Ag.k (Ag.k (Ag.o (Ag.k (Ag.i (Ag.i (Ag.o (Ag.o (Ag.o (Ag.k (Ag.k (Ag.k (Ag.k (Ag.k (Ag.k (Ag.o (Ag.o (Ag.o (Ag.o (Ag.o (Ag.o (Ag.o (Ag.o (Ag.o (Ag.o (Ag.o (Ag.o (Ag.o (Ag.o (Ag.o (Ag.o (Ag.o (Ag.o (Ag.o (Ag.o (Ag.o (Ag.o (Ag.o (Ag.o (Ag.o (Ag.o (Ag.o (Ag.o (Ag.o (Ag.o (Ag.o (Ag.o (Ag.o (Ag.o (Ag.o (Ag.o (Ag.o (Ag.o (Ag.o (Ag.o (Ag.o (Ag.o (Ag.o (Ag.o (Ag.o (Ag.o (Ag.o (Ag.o (Ag.o (Ag.o (Ag.o (Ag.o (Ag.o (Ag.o (Ag.o (Ag.o (Ag.o (Ag.o (Ag.o (Ag.o (Ag.o (Ag.o (Ag.o (Ag.o (Ag.o (Ag.o Ag.z))))))))))))))))))))))))))))))))))))))))))))))))))))))))))))))))))))))))))))))))) ?_ ?_
    · exact ⟨hsp, Nat.zero_le _, by simp [Except.map]; cases lexr (space l) (l.drop (space l)) <;> rfl, hS⟩
    · rintro ⟨k, ts, v⟩ t80 w hJ
      obtain ⟨hk, htl, hr, hS⟩ := hJ
      simp only at hk htl hr hS
      refine cnrm (mk (mk (mo (mk (mi (mi (mo (mo (mo (mk (mk (mk (mk (mk (mk (mo (mo (mo (mo (mo (mo (mo (mo (mo (mo (mo (mo (mo (mo (mo (mo (mo (mo (mo (mo (mo (mo (mo (mo (mo (mo (mo (mo (mo (mo (mo (mo (mo (mo (mo (mo (mo (mo (mo (mo (mo (mo (mo (mo (mo (mo (mo (mo (mo (mo (mo (mo (mo (mo (mo (mo (mo (mo (mo (mo (mo (mo (mo (mo (mo (mo mz))))))))))))))))))))))))))))))))))))))))))))))))))))))))))))))))))))))))))))))))) ?_
      refine cseq ?_
      refine cseq ?_
      refine creg ?_
      refine wl (s_move (et d5) (dt (ps p5)) ?_)
      refine wl (s_move (et d0) (dt (ps p6)) ?_)
      refine wl (s_lens underlying9 (et (ds d6)) (dt (ps p7)) ?_)
      refine wl (s_lss (et (ds d5)) (et (ds d7)) (dt (ps p8)) ?_)
      refine wnil ?_
      refine xn ?_
      refine cifd (et (ds d8)) (fun h1 => ?_) (fun h1 => ?_)
      · obtain ⟨c, hc⟩ : ∃ c, l[k]? = some c := ⟨_, List.getElem?_eq_getElem (by omega)⟩
        have hd : l.drop k = c :: l.drop (k + 1) := by rw [List.drop_eq_getElem_cons (by omega), ← Option.some.inj ((List.getElem?_eq_getElem (by omega)).symm.trans hc)]
        have hne : l.drop k ≠ [] := by rw [hd]; simp
        have hdl : (l.drop k).length = l.length - k := List.length_drop
        have fin : ∀ (t : Tok) (s : List UInt8) (v : Value) (w : World) (xs : List Value), tok1 k (l.drop k) = .ok t → s = t.text → xs = cells t → Sep (fun _ => True) (fun _ => False) w0 w [.row v 135 4 (ts.length + 1) (ts.flatMap cells ++ xs), .blk b1 47 [.int .i64 0, .int .i64 0]] (fun _ => True) →
            ((k + s.length + space (l.drop (k + s.length)), ts ++ [t], v).1 ≤ l.length ∧ (k + s.length + space (l.drop (k + s.length)), ts ++ [t], v).2.1.length ≤ (k + s.length + space (l.drop (k + s.length)), ts ++ [t], v).1 ∧ lexr (space l) (l.drop (space l)) = (lexr (k + s.length + space (l.drop (k + s.length)), ts ++ [t], v).1 (l.drop (k + s.length + space (l.drop (k + s.length)), ts ++ [t], v).1)).map ((k + s.length + space (l.drop (k + s.length)), ts ++ [t], v).2.1 ++ ·) ∧ Sep (fun _ => True) (fun _ => False) w0 w [.row (k + s.length + space (l.drop (k + s.length)), ts ++ [t], v).2.2 135 4 (k + s.length + space (l.drop (k + s.length)), ts ++ [t], v).2.1.length ((k + s.length + space (l.drop (k + s.length)), ts ++ [t], v).2.1.flatMap cells), .blk b1 47 [.int .i64 0, .int .i64 0]] (fun _ => True)) ∧ l.length - (k + s.length + space (l.drop (k + s.length))) < l.length - k := by
          rintro t _ v w xs ht rfl rfl hS
          obtain ⟨h1, h2, h3, h4⟩ := tok1_len ht
          have h5 := space_le (l.drop (k + t.text.length))
          rw [List.length_drop] at h5
          refine ⟨⟨by omega, by simp only [List.length_append, List.length_singleton]; omega, ?_, by simpa [List.flatMap_append] using hS⟩, by omega⟩
          rw [hr, lexr_ok hne ht, map_app, List.drop_drop, List.drop_drop, Nat.add_assoc]
        refine cskip ?_
        refine xn ?_
        refine cseq ?_
        refine cblock ?_
        refine cseq ?_
        refine creg ?_
        refine wl (s_move (et d0) (dt (ps (ps p5))) ?_)
        refine wl (s_move (et d5) (dt (ps (ps p6))) ?_)
        refine wl (s_cutlon underlying9 (et (ds (ds d5))) (et (ds (ds d6))) (by omega) (dt (ps (ps p7))) ?_)
        refine wl (s_assign (et (ds (ds d7))) (dt p6) ?_)
        refine wnil ?_
        refine xn ?_
        refine cseq ?_
        refine creg ?_
        refine wl (s_move (et d5) (dt (ps (ps p8))) ?_)
        refine wl (s_build ti135 pl135 (Fl.o rfl (et (ds (ds d8))) rfl rfl p3 Fl.z) (dt (ps (ps p9))) ?_)
        refine wl (s_alloc ti135 hS ?_)
        clear hS; intro b3 w3_ hb3 hS
        refine pu (dt p7) ?_
        refine wl (s_store ti135 (et d7) (et (ds (ds d9))) rfl rfl rfl hS d0 (Spl.s p0 (of_decide_eq_true rfl) (Spl.s p1 (of_decide_eq_true rfl) (Spl.s p2 (of_decide_eq_true rfl) (Spl.s p3 (of_decide_eq_true rfl) Spl.z)))) rfl p0 dn ?_)
        clear hS; intro w4_ hS
        refine wnil ?_
        refine xn ?_
        refine cseq ?_
        refine cseq ?_
        refine creg ?_
        refine wl (s_move (et d6) (dt (ps (ps (ps p0)))) ?_)
        refine wl (s_idxsn (i := 0) underlying9 (et (ds (ds (ds d0)))) ec (by rw [List.getElem?_drop]; simpa using hc) (dt (ps (ps (ps p1)))) ?_)
        refine wl (s_assign (et (ds (ds (ds d1)))) (dt p8) ?_)
        refine wnil ?_
        refine xn ?_
        refine cblock ?_
        refine cseq ?_
        refine creg ?_
        refine wl (s_move (et d8) (dt (ps (ps (ps (ps p2))))) ?_)
        refine wl (s_callp isfn58 ef (e1 (et (ds (ds (ds (ds d2))))) e0) (letter_c _) (dt (ps (ps (ps (ps p3))))) ?_)
        refine wl (s_assign (et (ds (ds (ds (ds d3))))) (dt (ps (ps (ps (ps p1))))) ?_)
        refine wnil ?_
        refine xn ?_
        refine cif (et (ds (ds (ds (ds d1))))) (fun h2 => ?_) (fun h2 => ?_)
        · have ht : tok1 k (l.drop k) = .ok ⟨1, (l.drop k).takeWhile wordB, 0, k⟩ := by rw [hd]; simp [tok1, h2]
          obtain ⟨hn1, hn2, hn3, -⟩ := tok1_len ht
          simp only at hn1 hn2 hn3
          refine cdraw (by kernel_rfl) rfl fun w5_ hh_ ho_ ht_ hu_ => ?_
          replace hS := hS.drew hh_ ho_ ht_ hu_
          refine sc_pu (i := 0) (blind_of fun _ _ _ h => h.2) rfl rfl rfl (u_move (et d6)) (ps (ps (ps (ps p4)))) ?_
          refine sc_pu (i := 1) (blind_of fun _ _ _ h => h.2) rfl rfl rfl (u_move (et d6)) (ps (ps (ps (ps p5)))) ?_
          refine sc_pu (i := 4) (blind_of fun _ _ _ h => h.2) rfl rfl rfl (u_fa fa135_0 (et d7) rfl) (ps (ps (ps (ps p8)))) ?_
          refine sc1 rfl rfl rfl (s_callp isfn59 ef (e1 (et (ds (ds (ds (ds d5))))) (e1 ef e0)) (while_c _ wordB _ (Nat.le_trans (Nat.le_of_eq hdl) (by omega)) isfn60 Tokens1_c) (dt (ps (ps (ps (ps p6))))) ?_)
          refine sc_pu (i := 3) (blind_of fun _ _ _ h => h.2) rfl rfl rfl (u_cuthin underlying9 (et (ds (ds (ds (ds d4))))) (et (ds (ds (ds (ds d6))))) ((List.takeWhile_sublist _).length_le)) (ps (ps (ps (ps p7)))) ?_
          refine sc1 rfl rfl rfl (s_store1 ti3 (et (ds (ds (ds (ds d8))))) ec rfl hS d0 p0 rfl p0 dn ?_)
          clear hS; intro w6_ hS
          refine sc_pu (i := 6) (blind_of fun _ _ _ h => h.2) rfl rfl rfl (u_fa fa135_1 (et d7) rfl) (ps (ps (ps (ps p9)))) ?_
          refine sc1 rfl rfl rfl (s_store1 ti9 (et (ds (ds (ds (ds d9))))) (et (ds (ds (ds (ds d7))))) rfl hS d0 p1 rfl p0 dn ?_)
          clear hS; intro w7_ hS
          refine sc_nil ?_
          refine (fun h => bn (xn h)) ?_
          refine cseq ?_
          refine creg ?_
          refine wl (s_move (et d4) (dt (ps (ps (ps (ps (ps (ps (ps p2)))))))) ?_)
          refine wl (s_loads ti135 (et d7) ((hS.blk d0).cells) rfl (dt (ps (ps (ps (ps (ps (ps (ps p3)))))))) ?_)
          refine wl (s_bsl1 underlying78 ti135 rfl (et (ds (ds (ds (ds (ds (ds (ds d3)))))))) rfl hS ?_)
          clear hS; intro b8 w8_ hb8 hS
          refine pu (dt (ps (ps (ps (ps (ps (ps (ps p4)))))))) ?_
          refine wl (s_append underlying78 ti135 rfl (et (ds (ds (ds (ds (ds (ds (ds d2)))))))) (et (ds (ds (ds (ds (ds (ds (ds d4)))))))) hS d2 ((hS.blk d0).cells) rfl rfl (by omega) ?_)
          clear hS; intro v9 w9_ rs_ hp_ hS; cases (show _ = rs_ from hp_)
          replace hS := Sep.reput hS p2
          refine pu (dt (ps (ps (ps (ps (ps (ps (ps p5)))))))) ?_
          replace hS := hS.drop Rm.z
          refine wl (s_assign (et (ds (ds (ds (ds (ds (ds (ds d5)))))))) (dt p4) ?_)
          refine wnil ?_
          refine xn ?_
          refine creg ?_
          refine wl (s_move (et d5) (dt (ps (ps (ps (ps (ps (ps (ps p6)))))))) ?_)
          refine wl (s_fa fa135_1 (et d7) rfl (dt (ps (ps (ps (ps (ps (ps (ps p7)))))))) ?_)
          refine wl (s_load ti9 (et (ds (ds (ds (ds (ds (ds (ds d7)))))))) ((hS.blk d0).cell d1) (dt (ps (ps (ps (ps (ps (ps (ps p8)))))))) ?_)
          refine wl (s_lens underlying9 (et (ds (ds (ds (ds (ds (ds (ds d8)))))))) (dt (ps (ps (ps (ps (ps (ps (ps p9)))))))) ?_)
          refine wl (s_addn (et (ds (ds (ds (ds (ds (ds (ds d6)))))))) (et (ds (ds (ds (ds (ds (ds (ds d9)))))))) (by simp only [tw_take]; omega) (dt (ps (ps (ps (ps (ps (ps (ps (ps p0))))))))) ?_)
          refine wl (s_assign (et (ds (ds (ds (ds (ds (ds (ds (ds d0))))))))) (dt p5) ?_)
          refine wnil ?_
          refine (fun h => bn (xn h)) ?_
          refine creg ?_
          refine wl (s_move (et d5) (dt (ps p9)) ?_)
          refine wl (s_move (et d0) (dt (ps (ps p0))) ?_)
          refine wl (s_move (et d5) (dt (ps (ps p1))) ?_)
          refine wl (s_cutlon underlying9 (et (ds (ds d0))) (et (ds (ds d1))) (by simp only [tw_take]; omega) (dt (ps (ps p2))) ?_)
          refine wl (s_callp isfn57 ef (e1 (et (ds (ds d2))) e0) (space_c _ (by rw [List.length_drop]; omega)) (dt (ps (ps p3))) ?_)
          refine wl (s_addn (et (ds d9)) (et (ds (ds d3))) (by refine Nat.le_trans (Nat.add_le_add_left (space_le _) _) ?_; rw [List.length_drop]; simp only [tw_take]; omega) (dt (ps (ps p4))) ?_)
          refine wl (s_assign (et (ds (ds d4))) (dt p5) ?_)
          refine wnil ?_
          refine xl ?_
          replace hS := hS.drop Rm.z
          exact ⟨(_, _, _), _, rfl, (Ag.k (Ag.k (Ag.o (Ag.k (Ag.i (Ag.i (Ag.o (Ag.o (Ag.o (Ag.k (Ag.k (Ag.k (Ag.k (Ag.k (Ag.k (Ag.o (Ag.o (Ag.o (Ag.o (Ag.o (Ag.o (Ag.o (Ag.o (Ag.o (Ag.o (Ag.o (Ag.o (Ag.o (Ag.o (Ag.o (Ag.o (Ag.o (Ag.o (Ag.o (Ag.o (Ag.o (Ag.o (Ag.o (Ag.o (Ag.o (Ag.o (Ag.o (Ag.o (Ag.o (Ag.o (Ag.o (Ag.o (Ag.o (Ag.o (Ag.o (Ag.o (Ag.o (Ag.o (Ag.o (Ag.o (Ag.o (Ag.o (Ag.o (Ag.o (Ag.o (Ag.o (Ag.o (Ag.o (Ag.o (Ag.o (Ag.o (Ag.o (Ag.o (Ag.o (Ag.o (Ag.o (Ag.o (Ag.o (Ag.o (Ag.o (Ag.o (Ag.o (Ag.o (Ag.o (Ag.o (Ag.o Ag.z))))))))))))))))))))))))))))))))))))))))))))))))))))))))))))))))))))))))))))))))), fin _ _ _ _ _ ht (by first | rfl | exact tw_take _ _) (by simp only [cells, tw_take]; rfl) hS⟩
        · refine cseq ?_
          refine creg ?_
          refine wl (s_move (et d8) (dt (ps (ps (ps (ps (ps p1)))))) ?_)
          refine wl (s_callp isfn61 ef (e1 (et (ds (ds (ds (ds (ds d1)))))) e0) (digit_c _) (dt (ps (ps (ps (ps (ps p2)))))) ?_)
          refine wl (s_assign (et (ds (ds (ds (ds (ds d2)))))) (dt (ps (ps (ps (ps (ps p0)))))) ?_)
          refine wnil ?_
          refine xn ?_
          refine cif (et (ds (ds (ds (ds (ds d0)))))) (fun h3 => ?_) (fun h3 => ?_)
          · refine cseq ?_
            refine cdraw (by kernel_rfl) rfl fun w10_ hh_ ho_ ht_ hu_ => ?_
            replace hS := hS.drew hh_ ho_ ht_ hu_
            refine sc_pu (i := 0) (blind_of fun _ _ _ h => h.2) rfl rfl rfl (u_move (et d6)) (ps (ps (ps (ps (ps p3))))) ?_
            refine sc_pu (i := 1) (blind_of fun _ _ _ h => h.2) rfl rfl rfl (u_move (et d6)) (ps (ps (ps (ps (ps p4))))) ?_
            refine sc_pu (i := 4) (blind_of fun _ _ _ h => h.2) rfl rfl rfl (u_fa fa135_0 (et d7) rfl) (ps (ps (ps (ps (ps p7))))) ?_
            refine sc1 rfl rfl rfl (s_callp isfn59 ef (e1 (et (ds (ds (ds (ds (ds d4)))))) (e1 ef e0)) (while_c _ digitB _ (Nat.le_trans (Nat.le_of_eq hdl) (by omega)) isfn61 digit_c) (dt (ps (ps (ps (ps (ps p5)))))) ?_)
            refine sc_pu (i := 3) (blind_of fun _ _ _ h => h.2) rfl rfl rfl (u_cuthin underlying9 (et (ds (ds (ds (ds (ds d3)))))) (et (ds (ds (ds (ds (ds d5)))))) ((List.takeWhile_sublist _).length_le)) (ps (ps (ps (ps (ps p6))))) ?_
            refine sc1 rfl rfl rfl (s_store1 ti3 (et (ds (ds (ds (ds (ds d7)))))) ec rfl hS d0 p0 rfl p0 dn ?_)
            clear hS; intro w11_ hS
            refine sc_pu (i := 6) (blind_of fun _ _ _ h => h.2) rfl rfl rfl (u_fa fa135_1 (et d7) rfl) (ps (ps (ps (ps (ps p8))))) ?_
            refine sc1 rfl rfl rfl (s_store1 ti9 (et (ds (ds (ds (ds (ds d8)))))) (et (ds (ds (ds (ds (ds d6)))))) rfl hS d0 p1 rfl p0 dn ?_)
            clear hS; intro w12_ hS
            refine sc_nil ?_
            refine xn ?_
            refine cseq ?_
            refine cseq ?_
            refine creg ?_
            refine wl (s_fa fa135_1 (et d7) rfl (dt (ps (ps (ps (ps (ps p9)))))) ?_)
            refine wl (s_load ti9 (et (ds (ds (ds (ds (ds d9)))))) ((hS.blk d0).cell d1) (dt (ps (ps (ps (ps (ps (ps p0))))))) ?_)
            refine wl (s_lens underlying9 (et (ds (ds (ds (ds (ds (ds d0))))))) (dt (ps (ps (ps (ps (ps (ps p1))))))) ?_)
            refine wl (s_gtr (et (ds (ds (ds (ds (ds (ds d1))))))) ec (dt (ps (ps (ps (ps (ps (ps p2))))))) ?_)
            refine wnil ?_
            refine xn ?_
            refine cifd (et (ds (ds (ds (ds (ds (ds d2))))))) (fun h4 => ?_) (fun h4 => ?_)
            · rw [tw_take] at h4
              have ht : tok1 k (l.drop k) = .error 3 := by rw [hd] at h4 ⊢; rw [tok1_num h2 h3, if_pos (by omega)]
              refine cseq ?_
              refine creg ?_
              refine wl (s_move (et d5) (dt (ps (ps (ps (ps (ps (ps p3))))))) ?_)
              refine wl (s_build ti47 pl47 (Fl.o rfl ec rfl rfl p0 (Fl.o rfl (et (ds (ds (ds (ds (ds (ds d3))))))) rfl rfl p1 Fl.z)) (dt (ps (ps (ps (ps (ps (ps p4))))))) ?_)
              refine wl (s_assign ec (dt p2) ?_)
              refine wl (s_store ti47 (et d3) (et (ds (ds (ds (ds (ds (ds d4))))))) rfl rfl rfl hS d2 (Spl.s p0 (of_decide_eq_true rfl) (Spl.s p1 (of_decide_eq_true rfl) Spl.z)) rfl p2 dn ?_)
              clear hS; intro w13_ hS
              refine wnil ?_
              refine xn ?_
              refine cret ?_
              refine (fun h => xr (br (xr (br (xr (xr (br (xr h)))))))) ?_
              refine retN rfl (RVs.s (.t d2) (RVs.s (.a d3 ti47 (hS.blk d2).cells rfl) RVs.z)) ?_
              first
                | (rw [if_pos (by omega)]; exact ⟨hS.keeps, rfl⟩)
                | (rw [if_neg (by omega), hr, lexr_err hne ht]; exact ⟨hS.keeps, rfl⟩)
                | (rw [if_neg (by omega), hr, List.drop_eq_nil_of_le (by omega), lexr_nil]; exact ⟨hS.keeps, _, rfl, by simp; omega, by simpa using hS.give d0 (B := Toks v ts) fun _ h => h⟩)
            · rw [tw_take] at h4 hS
              replace h4 : ¬ (15 : Int) < (List.takeWhile digitB (List.drop k l)).length := h4
              have ht : tok1 k (l.drop k) = .ok ⟨2, (l.drop k).takeWhile digitB, val ((l.drop k).takeWhile digitB), k⟩ := by rw [hd] at h4 ⊢; rw [tok1_num h2 h3, if_neg (by omega)]
              obtain ⟨hn1, hn2, hn3, -⟩ := tok1_len ht
              simp only at hn1 hn2 hn3
              refine cskip ?_
              refine xn ?_
              refine creg ?_
              refine wl (s_fa fa135_1 (et d7) rfl (dt (ps (ps (ps (ps (ps (ps p6))))))) ?_)
              refine wl (s_load ti9 (et (ds (ds (ds (ds (ds (ds d6))))))) ((hS.blk d0).cell d1) (dt (ps (ps (ps (ps (ps (ps p7))))))) ?_)
              refine wl (s_callv isfn62 ef (e1 (et (ds (ds (ds (ds (ds (ds d7))))))) (e1 ec (e1 ec e0))) (parseInt_c _ (List.length_pos_iff.1 hn1) (by omega) (tw_digits _) _) ?_)
              rintro _ w ⟨rfl, hg⟩; replace hS := hS.grow hg
              refine pu (dt (ps (ps (ps (ps (ps (ps p8))))))) ?_
              refine wl (s_move (et (ds (ds (ds (ds (ds (ds d8))))))) (dt (ps (ps (ps (ps (ps (ps p5))))))) ?_)
              refine wl (s_extr (et (ds (ds (ds (ds (ds (ds d5))))))) d0 (dt (ps (ps (ps (ps (ps (ps p9))))))) ?_)
              refine wl (s_extr (et (ds (ds (ds (ds (ds (ds d5))))))) d1 (dt (ps (ps (ps (ps (ps (ps (ps p0)))))))) ?_)
              refine wl (s_fa fa135_2 (et d7) rfl (dt (ps (ps (ps (ps (ps (ps (ps p1)))))))) ?_)
              refine wl (s_store1 ti2 (et (ds (ds (ds (ds (ds (ds (ds d1)))))))) (et (ds (ds (ds (ds (ds (ds d9))))))) rfl hS d0 p2 rfl p0 dn ?_)
              clear hS; intro w14_ hS
              refine wnil ?_
              refine (fun h => bn (xn h)) ?_
              refine cseq ?_
              refine creg ?_
              refine wl (s_move (et d4) (dt (ps (ps (ps (ps (ps (ps (ps p2)))))))) ?_)
              refine wl (s_loads ti135 (et d7) ((hS.blk d0).cells) rfl (dt (ps (ps (ps (ps (ps (ps (ps p3)))))))) ?_)
              refine wl (s_bsl1 underlying78 ti135 rfl (et (ds (ds (ds (ds (ds (ds (ds d3)))))))) rfl hS ?_)
              clear hS; intro b15 w15_ hb15 hS
              refine pu (dt (ps (ps (ps (ps (ps (ps (ps p4)))))))) ?_
              refine wl (s_append underlying78 ti135 rfl (et (ds (ds (ds (ds (ds (ds (ds d2)))))))) (et (ds (ds (ds (ds (ds (ds (ds d4)))))))) hS d2 ((hS.blk d0).cells) rfl rfl (by omega) ?_)
              clear hS; intro v16 w16_ rs_ hp_ hS; cases (show _ = rs_ from hp_)
              replace hS := Sep.reput hS p2
              refine pu (dt (ps (ps (ps (ps (ps (ps (ps p5)))))))) ?_
              replace hS := hS.drop Rm.z
              refine wl (s_assign (et (ds (ds (ds (ds (ds (ds (ds d5)))))))) (dt p4) ?_)
              refine wnil ?_
              refine xn ?_
              refine creg ?_
              refine wl (s_move (et d5) (dt (ps (ps (ps (ps (ps (ps (ps p6)))))))) ?_)
              refine wl (s_fa fa135_1 (et d7) rfl (dt (ps (ps (ps (ps (ps (ps (ps p7)))))))) ?_)
              refine wl (s_load ti9 (et (ds (ds (ds (ds (ds (ds (ds d7)))))))) ((hS.blk d0).cell d1) (dt (ps (ps (ps (ps (ps (ps (ps p8)))))))) ?_)
              refine wl (s_lens underlying9 (et (ds (ds (ds (ds (ds (ds (ds d8)))))))) (dt (ps (ps (ps (ps (ps (ps (ps p9)))))))) ?_)
              refine wl (s_addn (et (ds (ds (ds (ds (ds (ds (ds d6)))))))) (et (ds (ds (ds (ds (ds (ds (ds d9)))))))) (by simp only [tw_take]; omega) (dt (ps (ps (ps (ps (ps (ps (ps (ps p0))))))))) ?_)
              refine wl (s_assign (et (ds (ds (ds (ds (ds (ds (ds (ds d0))))))))) (dt p5) ?_)
              refine wnil ?_
              refine (fun h => bn (xn h)) ?_
              refine creg ?_
              refine wl (s_move (et d5) (dt (ps p9)) ?_)
              refine wl (s_move (et d0) (dt (ps (ps p0))) ?_)
              refine wl (s_move (et d5) (dt (ps (ps p1))) ?_)
              refine wl (s_cutlon underlying9 (et (ds (ds d0))) (et (ds (ds d1))) (by simp only [tw_take]; omega) (dt (ps (ps p2))) ?_)
              refine wl (s_callp isfn57 ef (e1 (et (ds (ds d2))) e0) (space_c _ (by rw [List.length_drop]; omega)) (dt (ps (ps p3))) ?_)
              refine wl (s_addn (et (ds d9)) (et (ds (ds d3))) (by refine Nat.le_trans (Nat.add_le_add_left (space_le _) _) ?_; rw [List.length_drop]; simp only [tw_take]; omega) (dt (ps (ps p4))) ?_)
              refine wl (s_assign (et (ds (ds d4))) (dt p5) ?_)
              refine wnil ?_
              refine xl ?_
              replace hS := hS.drop Rm.z
              exact ⟨(_, _, _), _, rfl, (Ag.k (Ag.k (Ag.o (Ag.k (Ag.i (Ag.i (Ag.o (Ag.o (Ag.o (Ag.k (Ag.k (Ag.k (Ag.k (Ag.k (Ag.k (Ag.o (Ag.o (Ag.o (Ag.o (Ag.o (Ag.o (Ag.o (Ag.o (Ag.o (Ag.o (Ag.o (Ag.o (Ag.o (Ag.o (Ag.o (Ag.o (Ag.o (Ag.o (Ag.o (Ag.o (Ag.o (Ag.o (Ag.o (Ag.o (Ag.o (Ag.o (Ag.o (Ag.o (Ag.o (Ag.o (Ag.o (Ag.o (Ag.o (Ag.o (Ag.o (Ag.o (Ag.o (Ag.o (Ag.o (Ag.o (Ag.o (Ag.o (Ag.o (Ag.o (Ag.o (Ag.o (Ag.o (Ag.o (Ag.o (Ag.o (Ag.o (Ag.o (Ag.o (Ag.o (Ag.o (Ag.o (Ag.o (Ag.o (Ag.o (Ag.o (Ag.o (Ag.o (Ag.o (Ag.o (Ag.o (Ag.o Ag.z))))))))))))))))))))))))))))))))))))))))))))))))))))))))))))))))))))))))))))))))), fin _ _ _ _ _ ht (by first | rfl | exact tw_take _ _) (by simp only [cells, tw_take]; rfl) hS⟩
          · refine cseq ?_
            refine creg ?_
            refine wl (s_move (et d6) (dt (ps (ps (ps p2)))) ?_)
            refine wl (s_callv isfn63 ef (e1 (et (ds (ds (ds d2)))) e0) (sign_c _ (Nat.le_trans (Nat.le_of_eq hdl) (by omega)) _) ?_)
            rintro _ w ⟨rfl, hg⟩; replace hS := hS.grow hg
            refine pu (dt (ps (ps (ps p3)))) ?_
            refine wl (s_fa fa135_0 (et d7) rfl (dt (ps (ps (ps p4)))) ?_)
            refine wl (s_store1 ti3 (et (ds (ds (ds d4)))) ec rfl hS d0 p0 rfl p0 dn ?_)
            clear hS; intro w17_ hS
            refine wl (s_fa fa135_1 (et d7) rfl (dt (ps (ps (ps p5)))) ?_)
            refine wl (s_store1 ti9 (et (ds (ds (ds d5)))) (et (ds (ds (ds d3)))) rfl hS d0 p1 rfl p0 dn ?_)
            clear hS; intro w18_ hS
            refine wnil ?_
            refine xn ?_
            refine cseq ?_
            refine creg ?_
            refine wl (s_fa fa135_1 (et d7) rfl (dt (ps (ps (ps p6)))) ?_)
            refine wl (s_load ti9 (et (ds (ds (ds d6)))) ((hS.blk d0).cell d1) (dt (ps (ps (ps p7)))) ?_)
            refine wl (s_eqs (et (ds (ds (ds d7)))) ec (dt (ps (ps (ps p8)))) ?_)
            refine wnil ?_
            refine xn ?_
            refine cifd (et (ds (ds (ds d8)))) (fun h5 => ?_) (fun h5 => ?_)
            · have ht : tok1 k (l.drop k) = .error 2 := by rw [hd] at h5 ⊢; rw [tok1_sign h2 h3, if_pos h5]
              refine cseq ?_
              refine creg ?_
              refine wl (s_move (et d5) (dt (ps (ps (ps p9)))) ?_)
              refine wl (s_build ti47 pl47 (Fl.o rfl ec rfl rfl p0 (Fl.o rfl (et (ds (ds (ds d9)))) rfl rfl p1 Fl.z)) (dt (ps (ps (ps (ps p0))))) ?_)
              refine wl (s_assign ec (dt p2) ?_)
              refine wl (s_store ti47 (et d3) (et (ds (ds (ds (ds d0))))) rfl rfl rfl hS d2 (Spl.s p0 (of_decide_eq_true rfl) (Spl.s p1 (of_decide_eq_true rfl) Spl.z)) rfl p2 dn ?_)
              clear hS; intro w19_ hS
              refine wnil ?_
              refine xn ?_
              refine cret ?_
              refine (fun h => br (xr (br (xr (xr (br (xr h))))))) ?_
              refine retN rfl (RVs.s (.t d2) (RVs.s (.a d3 ti47 (hS.blk d2).cells rfl) RVs.z)) ?_
              first
                | (rw [if_pos (by omega)]; exact ⟨hS.keeps, rfl⟩)
                | (rw [if_neg (by omega), hr, lexr_err hne ht]; exact ⟨hS.keeps, rfl⟩)
                | (rw [if_neg (by omega), hr, List.drop_eq_nil_of_le (by omega), lexr_nil]; exact ⟨hS.keeps, _, rfl, by simp; omega, by simpa using hS.give d0 (B := Toks v ts) fun _ h => h⟩)
            · have ht : tok1 k (l.drop k) = .ok ⟨3, sign (l.drop k), 0, k⟩ := by rw [hd] at h5 ⊢; rw [tok1_sign h2 h3, if_neg h5]
              obtain ⟨hn1, hn2, hn3, -⟩ := tok1_len ht
              simp only at hn1 hn2 hn3
              refine cskip ?_
              refine (fun h => bn (xn h)) ?_
              refine cseq ?_
              refine creg ?_
              refine wl (s_move (et d4) (dt (ps (ps (ps (ps (ps (ps (ps p2)))))))) ?_)
              refine wl (s_loads ti135 (et d7) ((hS.blk d0).cells) rfl (dt (ps (ps (ps (ps (ps (ps (ps p3)))))))) ?_)
              refine wl (s_bsl1 underlying78 ti135 rfl (et (ds (ds (ds (ds (ds (ds (ds d3)))))))) rfl hS ?_)
              clear hS; intro b20 w20_ hb20 hS
              refine pu (dt (ps (ps (ps (ps (ps (ps (ps p4)))))))) ?_
              refine wl (s_append underlying78 ti135 rfl (et (ds (ds (ds (ds (ds (ds (ds d2)))))))) (et (ds (ds (ds (ds (ds (ds (ds d4)))))))) hS d2 ((hS.blk d0).cells) rfl rfl (by omega) ?_)
              clear hS; intro v21 w21_ rs_ hp_ hS; cases (show _ = rs_ from hp_)
              replace hS := Sep.reput hS p2
              refine pu (dt (ps (ps (ps (ps (ps (ps (ps p5)))))))) ?_
              replace hS := hS.drop Rm.z
              refine wl (s_assign (et (ds (ds (ds (ds (ds (ds (ds d5)))))))) (dt p4) ?_)
              refine wnil ?_
              refine xn ?_
              refine creg ?_
              refine wl (s_move (et d5) (dt (ps (ps (ps (ps (ps (ps (ps p6)))))))) ?_)
              refine wl (s_fa fa135_1 (et d7) rfl (dt (ps (ps (ps (ps (ps (ps (ps p7)))))))) ?_)
              refine wl (s_load ti9 (et (ds (ds (ds (ds (ds (ds (ds d7)))))))) ((hS.blk d0).cell d1) (dt (ps (ps (ps (ps (ps (ps (ps p8)))))))) ?_)
              refine wl (s_lens underlying9 (et (ds (ds (ds (ds (ds (ds (ds d8)))))))) (dt (ps (ps (ps (ps (ps (ps (ps p9)))))))) ?_)
              refine wl (s_addn (et (ds (ds (ds (ds (ds (ds (ds d6)))))))) (et (ds (ds (ds (ds (ds (ds (ds d9)))))))) (by simp only [tw_take]; omega) (dt (ps (ps (ps (ps (ps (ps (ps (ps p0))))))))) ?_)
              refine wl (s_assign (et (ds (ds (ds (ds (ds (ds (ds (ds d0))))))))) (dt p5) ?_)
              refine wnil ?_
              refine (fun h => bn (xn h)) ?_
              refine creg ?_
              refine wl (s_move (et d5) (dt (ps p9)) ?_)
              refine wl (s_move (et d0) (dt (ps (ps p0))) ?_)
              refine wl (s_move (et d5) (dt (ps (ps p1))) ?_)
              refine wl (s_cutlon underlying9 (et (ds (ds d0))) (et (ds (ds d1))) (by simp only [tw_take]; omega) (dt (ps (ps p2))) ?_)
              refine wl (s_callp isfn57 ef (e1 (et (ds (ds d2))) e0) (space_c _ (by rw [List.length_drop]; omega)) (dt (ps (ps p3))) ?_)
              refine wl (s_addn (et (ds d9)) (et (ds (ds d3))) (by refine Nat.le_trans (Nat.add_le_add_left (space_le _) _) ?_; rw [List.length_drop]; simp only [tw_take]; omega) (dt (ps (ps p4))) ?_)
              refine wl (s_assign (et (ds (ds d4))) (dt p5) ?_)
              refine wnil ?_
              refine xl ?_
              replace hS := hS.drop Rm.z
              exact ⟨(_, _, _), _, rfl, (Ag.k (Ag.k (Ag.o (Ag.k (Ag.i (Ag.i (Ag.o (Ag.o (Ag.o (Ag.k (Ag.k (Ag.k (Ag.k (Ag.k (Ag.k (Ag.o (Ag.o (Ag.o (Ag.o (Ag.o (Ag.o (Ag.o (Ag.o (Ag.o (Ag.o (Ag.o (Ag.o (Ag.o (Ag.o (Ag.o (Ag.o (Ag.o (Ag.o (Ag.o (Ag.o (Ag.o (Ag.o (Ag.o (Ag.o (Ag.o (Ag.o (Ag.o (Ag.o (Ag.o (Ag.o (Ag.o (Ag.o (Ag.o (Ag.o (Ag.o (Ag.o (Ag.o (Ag.o (Ag.o (Ag.o (Ag.o (Ag.o (Ag.o (Ag.o (Ag.o (Ag.o (Ag.o (Ag.o (Ag.o (Ag.o (Ag.o (Ag.o (Ag.o (Ag.o (Ag.o (Ag.o (Ag.o (Ag.o (Ag.o (Ag.o (Ag.o (Ag.o (Ag.o (Ag.o (Ag.o (Ag.o Ag.z))))))))))))))))))))))))))))))))))))))))))))))))))))))))))))))))))))))))))))))))), fin _ _ _ _ _ ht (by first | rfl | exact tw_take _ _) (by simp only [cells, tw_take]; rfl) hS⟩
      · refine cexit ?_
        refine (fun h => xe (xe (bh h))) ?_
        refine xn ?_
        refine cseq ?_
        refine creg ?_
        refine wl (s_move (et d4) (dt (ps (ps (ps (ps (ps (ps (ps (ps p1))))))))) ?_)
        refine wl (s_build ti47 pl47 Fl.z (dt (ps (ps (ps (ps (ps (ps (ps (ps p2))))))))) ?_)
        refine wl (s_assign (et (ds (ds (ds (ds (ds (ds (ds (ds d1))))))))) (dt p2) ?_)
        refine wl (s_store ti47 (et d3) (et (ds (ds (ds (ds (ds (ds (ds (ds d2))))))))) rfl rfl rfl hS d1 (Spl.s p0 (of_decide_eq_true rfl) (Spl.s p1 (of_decide_eq_true rfl) Spl.z)) rfl p1 dn ?_)
        clear hS; intro w22_ hS
        refine wnil ?_
        refine xn ?_
        refine cret ?_
        refine retN rfl (RVs.s (.t d2) (RVs.s (.a d3 ti47 (hS.blk d1).cells rfl) RVs.z)) ?_
        first
          | (rw [if_pos (by omega)]; exact ⟨hS.keeps, rfl⟩)
          | (rw [if_neg (by omega), hr, lexr_err hne ht]; exact ⟨hS.keeps, rfl⟩)
          | (rw [if_neg (by omega), hr, List.drop_eq_nil_of_le (by omega), lexr_nil]; exact ⟨hS.keeps, _, rfl, by simp; omega, by simpa using hS.give d0 (B := Toks v ts) fun _ h => h⟩)
theorem flat_at {ts : List Tok} {i : Nat} {t : Tok} (h : ts[i]? = some t) (j : Nat) (v : Value) (hj : (cells t)[j]? = some v) : (ts.flatMap cells)[i * 4 + j]? = some v := by
  have hj4 : j < 4 := (List.getElem?_eq_some_iff.1 hj).1
  induction ts generalizing i with
  | nil => simp at h
  | cons a ts ih =>
    cases i with
    | zero =>
      simp at h
      subst h
      rw [List.flatMap_cons, List.getElem?_append_left (by show 0 * 4 + j < 4; omega)]
      simpa using hj
    | succ i =>
      rw [List.flatMap_cons, List.getElem?_append_right (by show 4 ≤ _; omega)]
      rw [show (i + 1) * 4 + j - (cells a).length = i * 4 + j by show (i + 1) * 4 + j - 4 = _; omega]
      exact ih (by simpa using h)
theorem Contains_c (h sub : List UInt8) (hs : h.length < 4294967281) (w0 : World) (hm : ∃ m, w0.cell? ⟨2, 0, none⟩ = some (.int .i64 m)) :
    CallsV prog 134 [S h, S sub] w0 fun v w => v = .bool (Lib.contains h sub) ∧ w = w0 :=
  let ⟨m, hm⟩ := hm
  ⟨(strings_Contains ⟨⟨h⟩⟩ ⟨⟨sub⟩⟩ m w0 hs hm).mono fun e w he => by
    obtain ⟨rfl, rfl⟩ := he
    exact ⟨rfl, rfl⟩⟩
theorem Named_c (l : List UInt8) (hl : l.length ≤ 140737488355328) (w0 : World) (hm : ∃ m, w0.cell? ⟨2, 0, none⟩ = some (.int .i64 m)) : CallsV prog 102 [S l] w0 fun v w => v = .bool (named l) ∧ w = w0 := by
  refine enter func102 rfl (frm := [_, _, _, _, _, _, _, _, _, _, _, _, _, _, _, _, _, _, _, _, _, _, _, _, _, _, _, _]) rfl ?_
  refine cseq ?_
  refine creg ?_
  refine wl (s_assign ec (dt p2) ?_)
  refine wnil ?_
  refine xn ?_
  refine cseq ?_
  refine cseq ?_
  refine creg ?_
  refine wl (s_move (et d0) (dt p3) ?_)
  refine wl (s_lens underlying9 (et d3) (dt p4) ?_)
  refine wl (s_lss (et d4) ec (dt p5) ?_)
  refine wl (s_move (et d5) (dt p6) ?_)
  refine wspd d6 p6 p6 (fun g1_3 => ?_) (fun g1_3 => ?_)
  · refine wn rfl d6 rfl (dt p7) ?_
    refine wn rfl d6 rfl (dt p8) ?_
    refine wn rfl d6 rfl (dt p9) ?_
    refine wl (s_pickt (et d6) ec (dt (ps p0)) ?_)
    refine wl (s_move (et (ds d0)) (dt (ps p1)) ?_)
    refine wn rfl (ds d1) rfl (dt (ps p2)) ?_
    refine wn rfl (ds d1) rfl (dt (ps p3)) ?_
    refine wn rfl (ds d1) rfl (dt (ps p4)) ?_
    refine wn rfl (ds d1) rfl (dt (ps p5)) ?_
    refine wl (s_pickt (et (ds d1)) ec (dt (ps p6)) ?_)
    refine wl (s_move (et (ds d6)) (dt (ps p7)) ?_)
    refine wn rfl (ds d7) rfl (dt (ps p8)) ?_
    refine wn rfl (ds d7) rfl (dt (ps p9)) ?_
    refine wn rfl (ds d7) rfl (dt (ps (ps p0))) ?_
    refine wn rfl (ds d7) rfl (dt (ps (ps p1))) ?_
    refine wl (s_pickt (et (ds d7)) ec (dt (ps (ps p2))) ?_)
    refine wnil ?_
    refine xn ?_
    refine cift (et (ds (ds d2))) ?_
    refine cseq ?_
    refine creg ?_
    refine wl (s_assign ec (dt p2) ?_)
    refine wnil ?_
    refine xn ?_
    refine cret ?_
    refine xr ?_
    refine ret1 rfl d2 ?_
    refine ⟨?_, rfl⟩
    congr 1
    first
      | (have : ¬ 0 < l.length := by omega
         simp [named, this]; done)
      | (have : ¬ l.length ≤ 12 := by omega
         simp [named, this]; done)
      | (simp at g1_14; simp [named, g1_14]; done)
      | exact (named_no (by omega) (by simpa using g1_14) h0).symm
      | (rw [named_yes (by omega) (by simpa using g1_14) h0]; simp <;> omega)
  · refine wy rfl d6 (s_move (et d0) (dt p7) ?_)
    refine wy rfl d6 (s_lens underlying9 (et d7) (dt p8) ?_)
    refine wy rfl d6 (s_gtr (et d8) ec (dt p9) ?_)
    refine wl (s_pickf (et d6) (et d9) (dt (ps p0)) ?_)
    refine wl (s_move (et (ds d0)) (dt (ps p1)) ?_)
    refine wspd (ds d1) (ps p1) (ps p1) (fun g1_8 => ?_) (fun g1_8 => ?_)
    · refine wn rfl (ds d1) rfl (dt (ps p2)) ?_
      refine wn rfl (ds d1) rfl (dt (ps p3)) ?_
      refine wn rfl (ds d1) rfl (dt (ps p4)) ?_
      refine wn rfl (ds d1) rfl (dt (ps p5)) ?_
      refine wl (s_pickt (et (ds d1)) ec (dt (ps p6)) ?_)
      refine wl (s_move (et (ds d6)) (dt (ps p7)) ?_)
      refine wn rfl (ds d7) rfl (dt (ps p8)) ?_
      refine wn rfl (ds d7) rfl (dt (ps p9)) ?_
      refine wn rfl (ds d7) rfl (dt (ps (ps p0))) ?_
      refine wn rfl (ds d7) rfl (dt (ps (ps p1))) ?_
      refine wl (s_pickt (et (ds d7)) ec (dt (ps (ps p2))) ?_)
      refine wnil ?_
      refine xn ?_
      refine cift (et (ds (ds d2))) ?_
      refine cseq ?_
      refine creg ?_
      refine wl (s_assign ec (dt p2) ?_)
      refine wnil ?_
      refine xn ?_
      refine cret ?_
      refine xr ?_
      refine ret1 rfl d2 ?_
      refine ⟨?_, rfl⟩
      congr 1
      first
        | (have : ¬ 0 < l.length := by omega
           simp [named, this]; done)
        | (have : ¬ l.length ≤ 12 := by omega
           simp [named, this]; done)
        | (simp at g1_14; simp [named, g1_14]; done)
        | exact (named_no (by omega) (by simpa using g1_14) h0).symm
        | (rw [named_yes (by omega) (by simpa using g1_14) h0]; simp <;> omega)
    · refine wy rfl (ds d1) (s_move (et d0) (dt (ps p2)) ?_)
      obtain ⟨c, r, rfl⟩ : ∃ c r, l = c :: r := by
        cases l with
        | nil => exact absurd (show (0 : Int) < 1 by decide) g1_3
        | cons c r => exact ⟨c, r, rfl⟩
      refine wy rfl (ds d1) (s_idxsn (i := 0) underlying9 (et (ds d2)) ec rfl (dt (ps p3)) ?_)
      refine wy rfl (ds d1) (s_callp isfn58 ef (e1 (et (ds d3)) e0) (letter_c _) (dt (ps p4)) ?_)
      refine wy rfl (ds d1) (s_not (et (ds d4)) (dt (ps p5)) ?_)
      refine wl (s_pickf (et (ds d1)) (et (ds d5)) (dt (ps p6)) ?_)
      refine wl (s_move (et (ds d6)) (dt (ps p7)) ?_)
      refine wsp (ds d7) (ps p7) (ps p7) (fun g1_14 => ?_) (fun g1_14 => ?_)
      · refine wn rfl (ds d7) rfl (dt (ps p8)) ?_
        refine wn rfl (ds d7) rfl (dt (ps p9)) ?_
        refine wn rfl (ds d7) rfl (dt (ps (ps p0))) ?_
        refine wn rfl (ds d7) rfl (dt (ps (ps p1))) ?_
        refine wl (s_pickt (et (ds d7)) ec (dt (ps (ps p2))) ?_)
        refine wnil ?_
        refine xn ?_
        refine cift (et (ds (ds d2))) ?_
        refine cseq ?_
        refine creg ?_
        refine wl (s_assign ec (dt p2) ?_)
        refine wnil ?_
        refine xn ?_
        refine cret ?_
        refine xr ?_
        refine ret1 rfl d2 ?_
        refine ⟨?_, rfl⟩
        congr 1
        first
          | (have : ¬ 0 < l.length := by omega
             simp [named, this]; done)
          | (have : ¬ l.length ≤ 12 := by omega
             simp [named, this]; done)
          | (simp at g1_14; simp [named, g1_14]; done)
          | exact (named_no (by omega) (by simpa using g1_14) h0).symm
          | (rw [named_yes (by omega) (by simpa using g1_14) h0]; simp <;> omega)
      · refine wy rfl (ds d7) (s_move (et d0) (dt (ps p8)) ?_)
        refine wy rfl (ds d7) (s_cat ec (et (ds d8)) (by simp; simp at g1_8; omega) (dt (ps p9)) ?_)
        refine wy rfl (ds d7) (s_cat (et (ds d9)) ec (by simp; simp at g1_8; omega) (dt (ps (ps p0))) ?_)
        refine wy rfl (ds d7) (s_callv isfn134 ef (e1 ec (e1 (et (ds (ds d0))) e0)) (Contains_c hay _ (by decide +kernel) _ hm) ?_)
        rintro _ w ⟨rfl, rfl⟩
        refine pu (dt (ps (ps p1))) ?_
        refine wl (s_pickf (et (ds d7)) (et (ds (ds d1))) (dt (ps (ps p2))) ?_)
        refine wnil ?_
        refine xn ?_
        refine cif (et (ds (ds d2))) (fun h0 => ?_) (fun h0 => ?_)
        · refine cseq ?_
          refine creg ?_
          refine wl (s_assign ec (dt p2) ?_)
          refine wnil ?_
          refine xn ?_
          refine cret ?_
          refine xr ?_
          refine ret1 rfl d2 ?_
          refine ⟨?_, rfl⟩
          congr 1
          first
            | (have : ¬ 0 < l.length := by omega
               simp [named, this]; done)
            | (have : ¬ l.length ≤ 12 := by omega
               simp [named, this]; done)
            | (simp at g1_14; simp [named, g1_14]; done)
            | exact (named_no (by omega) (by simpa using g1_14) h0).symm
            | (rw [named_yes (by omega) (by simpa using g1_14) h0]; simp <;> omega)
        · refine cskip ?_
          refine xn ?_
          refine cseq ?_
          refine creg ?_
          refine wl (s_move (et d0) (dt (ps (ps p3))) ?_)
          refine wl (s_callp isfn59 ef (e1 (et (ds (ds d3))) (e1 ef e0)) (while_c _ wordB _ (by omega) isfn135 Named1_c) (dt (ps (ps p4))) ?_)
          refine wl (s_move (et d0) (dt (ps (ps p5))) ?_)
          refine wl (s_lens underlying9 (et (ds (ds d5))) (dt (ps (ps p6))) ?_)
          refine wl (s_eqi (et (ds (ds d4))) (et (ds (ds d6))) (dt (ps (ps p7))) ?_)
          refine wl (s_assign (et (ds (ds d7))) (dt p2) ?_)
          refine wnil ?_
          refine xn ?_
          refine cret ?_
          refine ret1 rfl d2 ?_
          refine ⟨?_, rfl⟩
          congr 1
          first
            | (have : ¬ 0 < l.length := by omega
               simp [named, this]; done)
            | (have : ¬ l.length ≤ 12 := by omega
               simp [named, this]; done)
            | (simp at g1_14; simp [named, g1_14]; done)
            | exact (named_no (by omega) (by simpa using g1_14) h0).symm
            | (rw [named_yes (by omega) (by simpa using g1_14) h0]; simp <;> omega)
def Gm : M := fun w => ∃ m, w.cell? ⟨2, 0, none⟩ = some (.int .i64 m)
theorem lex_named_w {μ0 : M} {w0 w : World} {rsF : List Res} {l : List UInt8} {b : Bool} (hg : Le Gm μ0) (g : lex_named l = some b) (hS : Sq μ0 w0 w rsF) :
    CallsV prog 102 [S l] w (fun v w' => v = .bool b ∧ Sq μ0 w0 w' rsF) := by
  unfold lex_named at g
  split at g
  · rename_i hl
    obtain rfl := Option.some.inj g
    exact (Named_c l hl w (hg w hS.a)).mono fun v w' h => ⟨h.1, by rw [h.2]; exact hS⟩
  · cases g
theorem sl_of_toks {μ : M} {a : Option Addr} {n c : Nat} {ts : List Tok} (hn : n = ts.length) (hT : ∀ w, μ w → Toks (.slice a n c) ts w) (hne : ∃ w, μ w) : Sl μ a c (ts.map tokOf) := by
  subst hn
  obtain ⟨w, hw⟩ := hne
  have h := hT w hw
  have hcap : ts.length ≤ c ∧ c ≤ maxLen := by
    rcases h.2 with ⟨h1, h2⟩ | ⟨b, o, cap, cur, h1, h2, h3, h4, h5, h6⟩
    · obtain ⟨-, h3, rfl⟩ := Value.slice.inj h1; rw [h3]; simp [maxLen]
    · obtain ⟨-, -, rfl⟩ := Value.slice.inj h1; exact ⟨h3, h4⟩
  refine ⟨by simpa using hcap.1, hcap.2, ?_⟩
  cases ts with
  | nil => exact .inl rfl
  | cons t0 ts0 =>
    obtain ⟨b, o, c', hv, -⟩ := Row.some' h (by simp)
    cases hv
    refine .inr ⟨b, o, rfl, fun i => match (t0 :: ts0)[i]? with | some t => cells t | none => [], fun i x hx => ?_⟩
    simp only [List.getElem?_map, Option.map_eq_some_iff] at hx
    obtain ⟨t, ht, rfl⟩ := hx
    simp only [ht]
    refine ⟨fun w' hw' j v hj => ?_, rfl⟩
    obtain ⟨b', o', c'', hv', hc⟩ := Row.some' (hT w' hw') (by simp)
    cases hv'
    have := hc (i * 4 + j) v (flat_at ht j v hj)
    rw [← Nat.add_assoc] at this
    exact this
theorem lex_tokens_w {μ0 : M} {w0 w : World} {rsF : List Res} {l : List UInt8} {r : List TToken × TFault} (hg : Le Gm μ0) (g : lex_tokens l = some r) (hS : Sq μ0 w0 w rsF) :
    CallsV prog 32 [S l] w (fun v w' => ∃ (μ' : M) (a : Option Addr) (c : Nat), v = .tuple ⟨[.slice a r.1.length c, .agg ⟨[.int .i64 r.2.Err, .int .i64 r.2.At]⟩]⟩ ∧ Le μ0 μ' ∧ Sq μ' w0 w' rsF ∧ Sl μ' a c r.1) := by
  unfold lex_tokens at g
  split at g
  · rename_i hl
    obtain rfl := Option.some.inj g
    refine (Tokens_c l hl w).mono fun v w' h => ?_
    obtain ⟨hgr, h⟩ := h
    cases ht : tokens l with
    | error e =>
      rw [ht] at h
      obtain ⟨e1, e2⟩ := e
      subst h
      exact ⟨_, none, 0, rfl, Le.r, hS.grow hgr, Sl.nil⟩
    | ok ts =>
      rw [ht] at h
      obtain ⟨u, rfl, hlen, hR⟩ := h
      obtain ⟨a, c, rfl⟩ := Row.isSl hR.now
      have hS' := hS.growNew hgr hR
      exact ⟨_, a, c, by simp, fun w h => h.1, hS', sl_of_toks rfl (fun w h => h.2) ⟨w', hS'.a⟩⟩
  · cases g
end Go.Proofs.YtegmgfljdeabeaaGreatDoor
namespace Go.Proofs.YtegmgfljdeabeaaGreatDoor
open Go.Wk Go.Xt Go.Y Go.RowKit Tryz
section
variable {μ μ0 : M} {w0 w : World} {rsF rs : List Res}
def Cells1 (w : World) (v : Value) (vs : List Value) : Prop := (vs = [] ∧ ∃ a c, v = .slice a 0 c) ∨ ∃ b o c, v = .slice (some ⟨b, o, none⟩) vs.length c ∧ vs.length ≤ 9223372036854775807 ∧ ∀ j y, vs[j]? = some y → w.cell? ⟨b, o + j, none⟩ = some y
theorem rw_cells {α : Type} [Mo α] {f : α → Value} (hf : ∀ (μ : M) (l : List Value) (x : α), Mo.cs μ l x → l = [f x]) : ∀ {l : List α} {cells : List Value}, Rw μ cells l → cells = l.map f
  | [], cells, h => by rw [Rw] at h; simp [h]
  | x :: l, cells, h => by
    rw [Rw] at h
    obtain ⟨cs, t, rfl, h1, h2⟩ := h
    rw [hf _ _ _ h1, rw_cells hf h2]; rfl
theorem cells_row {α : Type} [Mo α] {f : α → Value} (hf : ∀ (μ : M) (l : List Value) (x : α), Mo.cs μ l x → l = [f x]) {v : Value} {T : TypeId} {l : List α} {cells : List Value} (h : Row w v T 1 l.length cells) (hr : Rw μ cells l) : Cells1 w v (l.map f) := by
  have e := rw_cells hf hr
  subst e
  rcases h.2 with ⟨rfl, h2⟩ | ⟨g, o, cap, cur, rfl, hg, h1, h2, h3, h4⟩
  · exact .inl ⟨by rw [List.length_eq_zero_iff.1 h2]; rfl, none, 0, rfl⟩
  · refine .inr ⟨g, o, cap, by simp, by simp; exact Nat.le_trans h1 (Nat.le_trans h2 (by decide)), fun j y hj => ?_⟩
    rw [cell_of_row w g (o + j) cur T (0, 0) hg]
    rw [← h4, List.getElem?_take] at hj
    split at hj
    · rw [List.getElem?_drop] at hj; simpa using hj
    · cases hj
theorem cells_sl {α : Type} [Mo α] {f : α → Value} (hf : ∀ (μ : M) (l : List Value) (x : α), Mo.cs μ l x → l = [f x]) (hsz : Mo.sz α = 1) {a : Option Addr} {c : Nat} {l : List α} (h : Sl μ a c l) (hw : μ w) : Cells1 w (.slice a l.length c) (l.map f) := by
  rcases h.el with rfl | ⟨b, o, rfl, gg, hel⟩
  · exact .inl ⟨rfl, a, c, rfl⟩
  · refine .inr ⟨b, o, c, by simp, by simp; exact Sl.len h, fun j y hj => ?_⟩
    simp only [List.getElem?_map, Option.map_eq_some_iff] at hj
    obtain ⟨x, hx, rfl⟩ := hj
    obtain ⟨h1, h2⟩ := hel j x hx
    rw [hf _ _ _ h2, hsz] at h1
    have := h1 w hw 0 _ rfl
    simpa using this
theorem str1 (μ : M) (l : List Value) (x : List UInt8) (h : Mo.cs μ l x) : l = [S x] := h
theorem int1 (μ : M) (l : List Value) (x : Int) (h : Mo.cs μ l x) : l = [.int .i64 x] := h
theorem contains_s_c {v : Value} {l : List (List UInt8)} {x : List UInt8} (h : Cells1 w v (l.map S)) : CallsV prog 110 [v, S x] w (fun v w' => v = .bool (l.contains x) ∧ w' = w) := by
  rcases h with ⟨h1, a, c, rfl⟩ | ⟨b, o, c, rfl, hl, hc⟩
  · obtain rfl : l = [] := List.map_eq_nil_iff.1 h1
    exact ⟨(slices_Contains_string_empty a c ⟨⟨x⟩⟩ w).mono fun e w' he => by
      obtain ⟨rfl, rfl⟩ := he
      exact ⟨rfl, rfl⟩⟩
  · refine ⟨(slices_Contains_string b o (l.map S).length c (l.map fun y => ⟨⟨y⟩⟩) ⟨⟨x⟩⟩ w (by simp) hl ?_).mono fun e w' he => ?_⟩
    · intro j hj
      have hj2 : j < l.length := by simpa using hj
      rw [hc j (S l[j]) (by simp [hj2])]
      simp [List.getElem?_eq_getElem hj2, S]
    · obtain ⟨rfl, rfl⟩ := he
      refine ⟨?_, rfl⟩
      congr 1
      rw [List.take_of_length_le (by simp), Bool.eq_iff_iff, Lib.containsS_iff, List.contains_iff_mem]
      constructor
      · intro hm
        obtain ⟨y, hy, e⟩ := List.mem_map.1 hm
        have e2 : y = x := congrArg (fun b : ByteArray => b.data.toList) e
        rwa [← e2]
      · exact fun hm => List.mem_map.2 ⟨x, hm, rfl⟩
theorem clone_i_c {v : Value} {l : List Int} (hl : l.length ≤ 65536) (h : Cells1 w v (l.map (Value.int .i64))) (hS : Sq μ0 w0 w rs) :
    CallsV prog 117 [v] w (fun v' w' => Sq μ0 w0 w' (.row v' 3 1 l.length (l.map (Value.int .i64)) :: rs)) := by
  rcases h with ⟨h1, a, c, rfl⟩ | ⟨b, o, c, rfl, hll, hc⟩
  · obtain rfl : l = [] := List.map_eq_nil_iff.1 h1
    cases a with
    | none => exact ⟨(slices_Clone_int_nil 0 c w).mono fun e w' he => by
        obtain ⟨rfl, rfl⟩ := he
        exact hS.nilRow 3 1⟩
    | some a => exact ⟨(slices_Clone_int_zero a c w).mono fun e w' he => by
        obtain ⟨v', rfl, ho, -, hb⟩ := he
        obtain ⟨hr, hk⟩ := row_of_owns ho
        exact hS.newRow ⟨hb.os, hb.tape, hb.output, hb.size, fun k hk _ => hb.block k hk⟩ hr hk⟩
  · refine ⟨(slices_Clone_int b o (l.map (Value.int .i64)).length c l w (by simp) (by simp; omega) ?_).mono fun e w' he => ?_⟩
    · intro j hj
      rw [hc j (.int .i64 l[j]) (by simp [hj])]
      simp [List.getElem?_eq_getElem hj]
    · obtain ⟨v', rfl, ho, -, hb⟩ := he
      rw [List.take_of_length_le (by simp), List.length_map] at ho
      obtain ⟨hr, hk⟩ := row_of_owns ho
      exact hS.newRow ⟨hb.os, hb.tape, hb.output, hb.size, fun k hk _ => hb.block k hk⟩ hr hk
theorem clone_b_c {v : Value} {l : List Bool} (hl : l.length ≤ 65536) (h : Cells1 w v (l.map Value.bool)) (hS : Sq μ0 w0 w rs) :
    CallsV prog 118 [v] w (fun v' w' => Sq μ0 w0 w' (.row v' 4 1 l.length (l.map Value.bool) :: rs)) := by
  rcases h with ⟨h1, a, c, rfl⟩ | ⟨b, o, c, rfl, hll, hc⟩
  · obtain rfl : l = [] := List.map_eq_nil_iff.1 h1
    cases a with
    | none => exact ⟨(slices_Clone_nil_f118 0 c w).mono fun e w' he => by
        obtain ⟨rfl, rfl⟩ := he
        exact hS.nilRow 4 1⟩
    | some a =>
      refine enter func118 rfl (frm := [_, _, _, _, _, _, _, _]) rfl ?_
      refine cseq ?_
      refine creg ?_
      refine wl (s_assign ec (dt p2) ?_)
      refine wnil ?_
      refine xn ?_
      refine cseq ?_
      refine cseq ?_
      refine creg ?_
      refine wl (s_move (et d0) (dt p3) ?_)
      refine wl (s_eqnsl underlying26 (et d3) (dt p4) ?_)
      refine wnil ?_
      refine xn ?_
      refine ciff (et d4) ?_
      refine cskip ?_
      refine xn ?_
      refine cseq ?_
      refine creg ?_
      refine wl (s_bsl0 underlying26 ti4 hS ?_); clear hS; intro b5 w1 hb5 hS; refine pu (dt p5) ?_
      replace hS := hS.blkRow (n := 0) (sz := Mo.sz Bool) d0 rfl (by decide) p0
      refine wl (s_move (et d0) (dt p6) ?_)
      refine wl (s_appS (α := Bool) (l := []) (ys := []) (news := []) underlying26 ti4 rfl (et d5) (et d6) hS d0 (fun e => absurd rfl e) rfl (show app [] [] = some [] from rfl) (by decide) ?_); clear hS; intro v2 w2 rs_ hp_ hS; cases (show _ = rs_ from hp_)
      replace hS := Sep.reput hS p0; refine pu (dt p7) ?_
      refine wl (s_assign (et d7) (dt p2) ?_)
      refine wnil ?_
      refine xn ?_
      refine cret ?_
      refine ret1 rfl d2 ?_
      exact hS
  · have hi : ∃ i z, prog.info? 4 = some i ∧ i.zero = some z ∧ i.size = 1 ∧ i.bytes = 1 ∧ z.cells.size = 1 := by
      obtain ⟨i, z, h1, h2, h3, h4, h5⟩ := (ti4).inf
      exact ⟨i, z, h1, h2, h4, h5, by rw [h3]; rfl⟩
    obtain ⟨i, z, h1, h2, h3, h4, h5⟩ := hi
    refine ⟨(slices_Clone_f118 i z 1 1 h1 h2 h3 h4 h5 (by decide) (fun w => (ti4).sizeOf) b o (l.map Value.bool).length c (l.map Value.bool) w (by simp) (by simp [maxLen]; omega) (by simp; omega) hc (fun u hu => ?_)).mono fun e w' he => ?_⟩
    · obtain ⟨x, -, rfl⟩ := List.mem_map.1 hu; rfl
    · obtain ⟨v', rfl, ho, -, hb⟩ := he
      rw [List.length_map] at ho
      obtain ⟨hr, hk⟩ := row_of_owns ho
      exact hS.newRow ⟨hb.os, hb.tape, hb.output, hb.size, fun k hk _ => hb.block k hk⟩ hr hk
theorem bool1 (μ : M) (l : List Value) (x : Bool) (h : Mo.cs μ l x) : l = [.bool x] := h
theorem rw_of_map {α : Type} [Mo α] {f : α → Value} (hf : ∀ (μ : M) (x : α), Mo.cs μ [f x] x) : ∀ (l : List α), Rw μ (l.map f) l
  | [] => rfl
  | x :: l => ⟨[f x], _, rfl, hf μ x, rw_of_map hf l⟩
end
end Go.Proofs.YtegmgfljdeabeaaGreatDoor
