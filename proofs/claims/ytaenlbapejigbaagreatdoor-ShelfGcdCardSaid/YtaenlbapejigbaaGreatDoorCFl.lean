/- The shelf: texts of Fl. -/
import Derived.Test.YtaenlbapejigbaaGreatDoorCXt
import Derived.Test.YtaenlbapejigbaaGreatDoorProg
import Derived.KernelRfl
import Derived.Shelf.Strconv.ParseIntEmpty
import Derived.Shelf.LaysM
import Derived.Shelf.Strconv.Clone
import Derived.Shelf.Strconv.SyntaxError
import Derived.Shelf.LaysC
import Derived.Shelf.Strconv.ToError
import Derived.Shelf.Strconv.Lower
import Derived.Shelf.Strconv.ParseUint10
import Derived.Shelf.Strconv.ParseUint10Empty
import Derived.Shelf.Strconv.ParseUint10Any
import Derived.Shelf.Strconv.ParseInt10
import Derived.Shelf.Strconv.RangeError
import Derived.Shelf.Strconv.ToErrorRange
import Derived.Shelf.Strconv.ParseUintEmpty
import Derived.Shelf.Strconv.ParseUint10b64
import Derived.Shelf.Strconv.ParseUint10b32
import Derived.Shelf.Strconv.ParseUint10b16
import Derived.Shelf.Strconv.ParseUint10b8
import Derived.Shelf.Strconv.ParseUint10At
import Derived.Shelf.Strconv.ParseInt10At64
import Derived.Shelf.Strconv.ParseInt10At32
import Derived.Shelf.Strconv.ParseInt10At16
import Derived.Shelf.Strconv.ParseInt10At8
import Derived.Shelf.Strconv.ParseInt10All
import Derived.Shelf.Strconv.ParseIntPublic10
import Derived.Shelf.Strings.Search1
import Derived.Shelf.Strings.Search2
import Derived.Shelf.Strings.Search3
import Derived.Shelf.Strings.Shaped
import Derived.Shelf.Slices.Turned
import Derived.Ground.Names2Prog
import Derived.Shelf.Slices.Clone
import Derived.Ground.SlgnProg
import Derived.Shelf.SlicesE.Clone
import Derived.Test.YtaenlbapejigbaaGreatDoorCMd
import Derived.Test.YtaenlbapejigbaaGreatDoorCXu
import Derived.Lib.SlicesS
set_option linter.unusedSimpArgs false
set_option linter.unusedVariables false
set_option linter.unusedSectionVars false
namespace Go.Proofs.YtaenlbapejigbaaGreatDoor
open Go.Wk Go.Xt Tryz
instance isfn14 : IsFn prog 14 := isf func14
instance isfn15 : IsFn prog 15 := isf func15
instance isfn16 : IsFn prog 16 := isf func16
instance isfn17 : IsFn prog 17 := isf func17
instance isfn18 : IsFn prog 18 := isf func18
instance isfn19 : IsFn prog 19 := isf func19
instance isfn20 : IsFn prog 20 := isf func20
instance isfn21 : IsFn prog 21 := isf func21
instance isfn22 : IsFn prog 22 := isf func22
instance isfn23 : IsFn prog 23 := isf func23
instance isfn24 : IsFn prog 24 := isf func24
instance isfn25 : IsFn prog 25 := isf func25
instance isfn26 : IsFn prog 26 := isf func26
instance isfn27 : IsFn prog 27 := isf func27
instance isfn28 : IsFn prog 28 := isf func28
instance isfn29 : IsFn prog 29 := isf func29
instance isfn30 : IsFn prog 30 := isf func30
instance isfn31 : IsFn prog 31 := isf func31
instance isfn32 : IsFn prog 32 := isf func32
instance isfn34 : IsFn prog 34 := isf func34
instance isfn35 : IsFn prog 35 := isf func35
instance isfn36 : IsFn prog 36 := isf func36
instance isfn37 : IsFn prog 37 := isf func37
instance isfn38 : IsFn prog 38 := isf func38
instance isfn39 : IsFn prog 39 := isf func39
instance isfn40 : IsFn prog 40 := isf func40
instance isfn41 : IsFn prog 41 := isf func41
instance isfn42 : IsFn prog 42 := isf func42
instance isfn43 : IsFn prog 43 := isf func43
instance isfn44 : IsFn prog 44 := isf func44
instance isfn45 : IsFn prog 45 := isf func45
instance isfn46 : IsFn prog 46 := isf func46
instance isfn47 : IsFn prog 47 := isf func47
instance isfn49 : IsFn prog 49 := isf func49
instance isfn50 : IsFn prog 50 := isf func50
instance isfn51 : IsFn prog 51 := isf func51
instance isfn52 : IsFn prog 52 := isf func52
instance isfn53 : IsFn prog 53 := isf func53
instance isfn54 : IsFn prog 54 := isf func54
instance isfn55 : IsFn prog 55 := isf func55
instance isfn56 : IsFn prog 56 := isf func56
instance isfn57 : IsFn prog 57 := isf func57
instance isfn58 : IsFn prog 58 := isf func58
instance isfn59 : IsFn prog 59 := isf func59
instance isfn60 : IsFn prog 60 := isf func60
instance isfn61 : IsFn prog 61 := isf func61
instance isfn62 : IsFn prog 62 := isf func62
instance isfn63 : IsFn prog 63 := isf func63
instance isfn64 : IsFn prog 64 := isf func64
instance isfn65 : IsFn prog 65 := isf func65
instance isfn66 : IsFn prog 66 := isf func66
instance isfn67 : IsFn prog 67 := isf func67
instance isfn68 : IsFn prog 68 := isf func68
instance isfn69 : IsFn prog 69 := isf func69
instance isfn70 : IsFn prog 70 := isf func70
instance isfn71 : IsFn prog 71 := isf func71
instance isfn72 : IsFn prog 72 := isf func72
instance isfn73 : IsFn prog 73 := isf func73
instance isfn74 : IsFn prog 74 := isf func74
instance isfn75 : IsFn prog 75 := isf func75
instance isfn76 : IsFn prog 76 := isf func76
instance isfn77 : IsFn prog 77 := isf func77
instance isfn78 : IsFn prog 78 := isf func78
instance isfn79 : IsFn prog 79 := isf func79
instance isfn80 : IsFn prog 80 := isf func80
instance isfn81 : IsFn prog 81 := isf func81
instance isfn82 : IsFn prog 82 := isf func82
instance isfn83 : IsFn prog 83 := isf func83
instance isfn84 : IsFn prog 84 := isf func84
instance isfn85 : IsFn prog 85 := isf func85
instance isfn86 : IsFn prog 86 := isf func86
instance isfn87 : IsFn prog 87 := isf func87
instance isfn88 : IsFn prog 88 := isf func88
instance isfn89 : IsFn prog 89 := isf func89
instance isfn90 : IsFn prog 90 := isf func90
instance isfn91 : IsFn prog 91 := isf func91
instance isfn92 : IsFn prog 92 := isf func92
instance isfn95 : IsFn prog 95 := isf func95
instance isfn99 : IsFn prog 99 := isf func99
instance isfn100 : IsFn prog 100 := isf func100
instance isfn101 : IsFn prog 101 := isf func101
instance isfn102 : IsFn prog 102 := isf func102
instance isfn103 : IsFn prog 103 := isf func103
instance isfn104 : IsFn prog 104 := isf func104
instance isfn105 : IsFn prog 105 := isf func105
instance isfn106 : IsFn prog 106 := isf func106
instance isfn107 : IsFn prog 107 := isf func107
instance isfn108 : IsFn prog 108 := isf func108
instance isfn109 : IsFn prog 109 := isf func109
instance isfn110 : IsFn prog 110 := isf func110
instance isfn111 : IsFn prog 111 := isf func111
instance isfn113 : IsFn prog 113 := isf func113
instance isfn115 : IsFn prog 115 := isf func115
instance isfn116 : IsFn prog 116 := isf func116
instance isfn117 : IsFn prog 117 := isf func117
instance isfn118 : IsFn prog 118 := isf func118
instance isfn119 : IsFn prog 119 := isf func119
instance isfn120 : IsFn prog 120 := isf func120
instance isfn121 : IsFn prog 121 := isf func121
instance isfn122 : IsFn prog 122 := isf func122
instance isfn123 : IsFn prog 123 := isf func123
instance isfn124 : IsFn prog 124 := isf func124
instance isfn125 : IsFn prog 125 := isf func125
instance isfn132 : IsFn prog 132 := isf func132
instance isfn133 : IsFn prog 133 := isf func133
instance isfn134 : IsFn prog 134 := isf func134
instance isfn135 : IsFn prog 135 := isf func135
instance isfn136 : IsFn prog 136 := isf func136
instance isfn137 : IsFn prog 137 := isf func137
instance isfn138 : IsFn prog 138 := isf func138
instance isfn139 : IsFn prog 139 := isf func139
instance isfn140 : IsFn prog 140 := isf func140
instance isfn142 : IsFn prog 142 := isf func142
instance isfn143 : IsFn prog 143 := isf func143
instance isfn144 : IsFn prog 144 := isf func144
instance isfn145 : IsFn prog 145 := isf func145
instance isfn146 : IsFn prog 146 := isf func146
instance isfn155 : IsFn prog 155 := isf func155
instance isfn156 : IsFn prog 156 := isf func156
instance isfn157 : IsFn prog 157 := isf func157
instance isfn158 : IsFn prog 158 := isf func158
instance isfn159 : IsFn prog 159 := isf func159
instance isfn160 : IsFn prog 160 := isf func160
instance isfn161 : IsFn prog 161 := isf func161
instance isfn164 : IsFn prog 164 := isf func164
instance isfn165 : IsFn prog 165 := isf func165
instance isfn166 : IsFn prog 166 := isf func166
instance isfn167 : IsFn prog 167 := isf func167
instance isfn168 : IsFn prog 168 := isf func168
instance isfn169 : IsFn prog 169 := isf func169
instance isfn175 : IsFn prog 175 := isf func175
instance isfn176 : IsFn prog 176 := isf func176
instance isfn177 : IsFn prog 177 := isf func177
instance isfn178 : IsFn prog 178 := isf func178
instance isfn179 : IsFn prog 179 := isf func179
instance isfn187 : IsFn prog 187 := isf func187
instance isfn188 : IsFn prog 188 := isf func188
instance isfn189 : IsFn prog 189 := isf func189
instance isfn190 : IsFn prog 190 := isf func190
instance isfn214 : IsFn prog 214 := isf func214
instance isfn217 : IsFn prog 217 := isf func217
instance ti2 : TI prog 2 false [.int .i64 0] 1 8 := tj (z := .int .i64 0) underlying2
instance ti3 : TI prog 3 false [.int .i64 0] 1 8 := tj (z := .int .i64 0) underlying3
instance ti4 : TI prog 4 false [.bool false] 1 1 := tj (z := .bool false) underlying4
instance ti9 : TI prog 9 false [S []] 1 16 := tj (z := S []) underlying9
instance ti22 : TI prog 22 false [.slice none 0 0] 1 24 := tj (z := .slice none 0 0) underlying22
instance ti26 : TI prog 26 false [.slice none 0 0] 1 24 := tj (z := .slice none 0 0) underlying26
instance ti27 : TI prog 27 false [.slice none 0 0] 1 24 := tj (z := .slice none 0 0) underlying27
instance ti29 : TI prog 29 true [.int .i64 0, .int .i64 0, .int .i64 0, .slice none 0 0, .slice none 0 0, .slice none 0 0, .int .i64 0] 7 104 := tj (z := .agg #[.int .i64 0, .int .i64 0, .int .i64 0, .slice none 0 0, .slice none 0 0, .slice none 0 0, .int .i64 0]) underlying29
instance ti30 : TI prog 30 false [.int .i64 0] 1 8 := tj (z := .int .i64 0) underlying30
instance ti34 : TI prog 34 false [.slice none 0 0] 1 24 := tj (z := .slice none 0 0) underlying34
instance ti35 : TI prog 35 false [.slice none 0 0] 1 24 := tj (z := .slice none 0 0) underlying35
instance ti37 : TI prog 37 true [.slice none 0 0, .slice none 0 0] 2 48 := tj (z := .agg #[.slice none 0 0, .slice none 0 0]) underlying37
instance ti43 : TI prog 43 false [.slice none 0 0] 1 24 := tj (z := .slice none 0 0) underlying43
instance ti45 : TI prog 45 true [.int .i64 0, .int .i64 0] 2 16 := tj (z := .agg #[.int .i64 0, .int .i64 0]) underlying45
instance ti51 : TI prog 51 true [.int .i64 0, .int .i64 0, .int .i64 0] 3 24 := tj (z := .agg #[.int .i64 0, .int .i64 0, .int .i64 0]) underlying51
instance ti54 : TI prog 54 false [.pointer none] 1 8 := tj (z := .pointer none) underlying54
instance ti56 : TI prog 56 true [.int .i64 0, .int .i64 0] 2 16 := tj (z := .agg #[.int .i64 0, .int .i64 0]) underlying56
instance ti59 : TI prog 59 true [.slice none 0 0, .slice none 0 0, .slice none 0 0] 3 72 := tj (z := .agg #[.slice none 0 0, .slice none 0 0, .slice none 0 0]) underlying59
instance ti64 : TI prog 64 false [.nilIface] 1 16 := tj (z := .nilIface) underlying64
instance ti65 : TI prog 65 false [.slice none 0 0] 1 24 := tj (z := .slice none 0 0) underlying65
instance ti66 : TI prog 66 false [.pointer none] 1 8 := tj (z := .pointer none) underlying66
instance ti67 : TI prog 67 false [.nilFunc] 1 8 := tj (z := .nilFunc) underlying67
instance ti69 : TI prog 69 true [.pointer none, .nilIface, .slice none 0 0, .pointer none, .int .i64 0, .int .i64 0, .int .i64 0, .slice none 0 0, .nilFunc] 9 112 := tj (z := .agg #[.pointer none, .nilIface, .slice none 0 0, .pointer none, .int .i64 0, .int .i64 0, .int .i64 0, .slice none 0 0, .nilFunc]) underlying69
instance ti70 : TI prog 70 false [.slice none 0 0] 1 24 := tj (z := .slice none 0 0) underlying70
instance ti74 : TI prog 74 true [S [], S []] 2 32 := tj (z := .agg #[S [], S []]) underlying74
instance ti76 : TI prog 76 false [.slice none 0 0] 1 24 := tj (z := .slice none 0 0) underlying76
instance ti81 : TI prog 81 false [.pointer none] 1 8 := tj (z := .pointer none) underlying81
instance ti83 : TI prog 83 true [.slice none 0 0, .int .i64 0, .int .i64 0] 3 40 := tj (z := .agg #[.slice none 0 0, .int .i64 0, .int .i64 0]) underlying83
instance ti87 : TI prog 87 true [.int .i64 0, S []] 2 24 := tj (z := .agg #[.int .i64 0, S []]) underlying87
instance ti88 : TI prog 88 false [.slice none 0 0] 1 24 := tj (z := .slice none 0 0) underlying88
instance ti89 : TI prog 89 false [.slice none 0 0] 1 24 := tj (z := .slice none 0 0) underlying89
instance ti91 : TI prog 91 true [.int .i64 0, S [], .int .i64 0, S [], .int .i64 0, S [], .int .i64 0, .slice none 0 0, .slice none 0 0] 9 128 := tj (z := .agg #[.int .i64 0, S [], .int .i64 0, S [], .int .i64 0, S [], .int .i64 0, .slice none 0 0, .slice none 0 0]) underlying91
instance ti94 : TI prog 94 false [.pointer none] 1 8 := tj (z := .pointer none) underlying94
instance ti95 : TI prog 95 false [.map none] 1 8 := tj (z := .map none) underlying95
instance ti96 : TI prog 96 false [.map none] 1 8 := tj (z := .map none) underlying96
instance ti98 : TI prog 98 true [.map none, .map none, .map none] 3 24 := tj (z := .agg #[.map none, .map none, .map none]) underlying98
instance ti99 : TI prog 99 false [.pointer none] 1 8 := tj (z := .pointer none) underlying99
instance ti101 : TI prog 101 false [.slice none 0 0] 1 24 := tj (z := .slice none 0 0) underlying101
instance ti103 : TI prog 103 true [.int .i64 0, .int .i64 0, .slice none 0 0, .int .i64 0, .int .i64 0, .slice none 0 0] 6 80 := tj (z := .agg #[.int .i64 0, .int .i64 0, .slice none 0 0, .int .i64 0, .int .i64 0, .slice none 0 0]) underlying103
instance ti105 : TI prog 105 false [.pointer none] 1 8 := tj (z := .pointer none) underlying105
instance ti107 : TI prog 107 true [.pointer none] 1 8 := tj (z := .agg #[.pointer none]) underlying107
instance ti111 : TI prog 111 false [.slice none 0 0] 1 24 := tj (z := .slice none 0 0) underlying111
instance ti112 : TI prog 112 false [.pointer none] 1 8 := tj (z := .pointer none) underlying112
instance ti114 : TI prog 114 true [.int .i64 0, .pointer none, .slice none 0 0, .pointer none] 4 48 := tj (z := .agg #[.int .i64 0, .pointer none, .slice none 0 0, .pointer none]) underlying114
instance ti117 : TI prog 117 true [.int .i64 0, .int .i64 0, .int .i64 0] 3 24 := tj (z := .agg #[.int .i64 0, .int .i64 0, .int .i64 0]) underlying117
instance ti120 : TI prog 120 true [.int .i64 0, .int .i64 0, .int .i64 0] 3 24 := tj (z := .agg #[.int .i64 0, .int .i64 0, .int .i64 0]) underlying120
instance ti133 : TI prog 133 true [.int .i64 0, S [], .int .i64 0, .int .i64 0] 4 40 := tj (z := .agg #[.int .i64 0, S [], .int .i64 0, .int .i64 0]) underlying133
instance ti149 : TI prog 149 true [.int .i64 0] 1 8 := tj (z := .agg #[.int .i64 0]) underlying149
instance ti150 : TI prog 150 false [.nilFunc] 1 8 := tj (z := .nilFunc) underlying150
instance ti155 : TI prog 155 false [.slice none 0 0] 1 24 := tj (z := .slice none 0 0) underlying155
instance ti157 : TI prog 157 true [.pointer none, .int .i64 0, .int .i64 0, .slice none 0 0, .int .i64 0, .int .i64 0, .slice none 0 0, .slice none 0 0] 8 112 := tj (z := .agg #[.pointer none, .int .i64 0, .int .i64 0, .slice none 0 0, .int .i64 0, .int .i64 0, .slice none 0 0, .slice none 0 0]) underlying157
instance ti159 : TI prog 159 true [S [], .int .i64 0, S []] 3 40 := tj (z := .agg #[S [], .int .i64 0, S []]) underlying159
instance ti164 : TI prog 164 false [.pointer none] 1 8 := tj (z := .pointer none) underlying164
instance ti168 : TI prog 168 false [.map none] 1 8 := tj (z := .map none) underlying168
instance ti169 : TI prog 169 false [.slice none 0 0] 1 24 := tj (z := .slice none 0 0) underlying169
instance ti171 : TI prog 171 true [.slice none 0 0, .slice none 0 0] 2 48 := tj (z := .agg #[.slice none 0 0, .slice none 0 0]) underlying171
instance ti173 : TI prog 173 true [.pointer none, .pointer none, .map none, .slice none 0 0, .slice none 0 0, .slice none 0 0, .int .i64 0] 7 104 := tj (z := .agg #[.pointer none, .pointer none, .map none, .slice none 0 0, .slice none 0 0, .slice none 0 0, .int .i64 0]) underlying173
instance ti181 : TI prog 181 true [.slice none 0 0, .int .i64 0, .int .i64 0, .int .i64 0] 4 48 := tj (z := .agg #[.slice none 0 0, .int .i64 0, .int .i64 0, .int .i64 0]) underlying181
instance ti188 : TI prog 188 false [.slice none 0 0] 1 24 := tj (z := .slice none 0 0) underlying188
instance ti191 : TI prog 191 false [.slice none 0 0] 1 24 := tj (z := .slice none 0 0) underlying191
instance ti193 : TI prog 193 true [.int .i64 0, .int .i64 0, S [], .slice none 0 0] 4 56 := tj (z := .agg #[.int .i64 0, .int .i64 0, S [], .slice none 0 0]) underlying193
instance ti195 : TI prog 195 true [.int .i64 0, S [], .int .i64 0, .int .i64 0, S [], .slice none 0 0, .slice none 0 0, .slice none 0 0] 8 128 := tj (z := .agg #[.int .i64 0, S [], .int .i64 0, .int .i64 0, S [], .slice none 0 0, .slice none 0 0, .slice none 0 0]) underlying195
instance ti200 : TI prog 200 false [.pointer none] 1 8 := tj (z := .pointer none) underlying200
instance ti205 : TI prog 205 true [.slice none 0 0, .slice none 0 0, .slice none 0 0] 3 72 := tj (z := .agg #[.slice none 0 0, .slice none 0 0, .slice none 0 0]) underlying205
instance ti208 : TI prog 208 true [S [], S [], S []] 3 48 := tj (z := .agg #[S [], S [], S []]) underlying208
instance ti209 : TI prog 209 false [.pointer none] 1 8 := tj (z := .pointer none) underlying209
instance ti210 : TI prog 210 true [.slice none 0 0, .pointer none] 2 32 := tj (z := .agg #[.slice none 0 0, .pointer none]) underlying210
instance ti237 : TI prog 237 true [.slice none 0 0, .map none] 2 32 := tj (z := .agg #[.slice none 0 0, .map none]) underlying237
instance ti257 : TI prog 257 false [.pointer none] 1 8 := tj (z := .pointer none) underlying257
instance ti258 : TI prog 258 false [.map none] 1 8 := tj (z := .map none) underlying258
instance ti259 : TI prog 259 false [.slice none 0 0] 1 24 := tj (z := .slice none 0 0) underlying259
instance ti261 : TI prog 261 true [.pointer none, .pointer none, .slice none 0 0] 3 40 := tj (z := .agg #[.pointer none, .pointer none, .slice none 0 0]) underlying261
instance ti274 : TI prog 274 true [.map none, .bool false] 2 16 := tj (z := .agg #[.map none, .bool false]) underlying274
theorem eg87 : prog.eqGuardType prog.depth 87 = false := by kernel_rfl
theorem eh87 : prog.stoodInHeld 87 = false := by kernel_rfl
instance fa103_0 : FA prog 103 0 0 := fa_of underlying103 rfl rfl rfl ti3 rfl
instance fa103_1 : FA prog 103 1 1 := fa_of underlying103 rfl rfl rfl ti3 rfl
instance fa103_2 : FA prog 103 2 2 := fa_of underlying103 rfl rfl rfl ti27 rfl
instance fa103_3 : FA prog 103 3 3 := fa_of underlying103 rfl rfl rfl ti3 rfl
instance fa103_5 : FA prog 103 5 5 := fa_of underlying103 rfl rfl rfl ti101 rfl
instance fa107_0 : FA prog 107 0 0 := fa_of underlying107 rfl rfl rfl ti54 rfl
instance fa114_0 : FA prog 114 0 0 := fa_of underlying114 rfl rfl rfl ti3 rfl
instance fa114_1 : FA prog 114 1 1 := fa_of underlying114 rfl rfl rfl ti66 rfl
instance fa114_2 : FA prog 114 2 2 := fa_of underlying114 rfl rfl rfl ti111 rfl
instance fa114_3 : FA prog 114 3 3 := fa_of underlying114 rfl rfl rfl ti112 rfl
instance fa117_0 : FA prog 117 0 0 := fa_of underlying117 rfl rfl rfl ti3 rfl
instance fa117_1 : FA prog 117 1 1 := fa_of underlying117 rfl rfl rfl ti3 rfl
instance fa117_2 : FA prog 117 2 2 := fa_of underlying117 rfl rfl rfl ti3 rfl
instance fa120_0 : FA prog 120 0 0 := fa_of underlying120 rfl rfl rfl ti3 rfl
instance fa120_1 : FA prog 120 1 1 := fa_of underlying120 rfl rfl rfl ti3 rfl
instance fa120_2 : FA prog 120 2 2 := fa_of underlying120 rfl rfl rfl ti2 rfl
instance fa133_0 : FA prog 133 0 0 := fa_of underlying133 rfl rfl rfl ti3 rfl
instance fa133_1 : FA prog 133 1 1 := fa_of underlying133 rfl rfl rfl ti9 rfl
instance fa133_2 : FA prog 133 2 2 := fa_of underlying133 rfl rfl rfl ti2 rfl
instance fa133_3 : FA prog 133 3 3 := fa_of underlying133 rfl rfl rfl ti3 rfl
instance fa149_0 : FA prog 149 0 0 := fa_of underlying149 rfl rfl rfl ti3 rfl
instance fa157_0 : FA prog 157 0 0 := fa_of underlying157 rfl rfl rfl ti94 rfl
instance fa157_1 : FA prog 157 1 1 := fa_of underlying157 rfl rfl rfl ti103 rfl
instance fa157_2 : FA prog 157 2 7 := fa_of underlying157 rfl rfl rfl ti155 rfl
instance fa159_0 : FA prog 159 0 0 := fa_of underlying159 rfl rfl rfl ti9 rfl
instance fa159_1 : FA prog 159 1 1 := fa_of underlying159 rfl rfl rfl ti87 rfl
instance fa171_0 : FA prog 171 0 0 := fa_of underlying171 rfl rfl rfl ti27 rfl
instance fa171_1 : FA prog 171 1 1 := fa_of underlying171 rfl rfl rfl ti169 rfl
instance fa173_0 : FA prog 173 0 0 := fa_of underlying173 rfl rfl rfl ti105 rfl
instance fa173_1 : FA prog 173 1 1 := fa_of underlying173 rfl rfl rfl ti164 rfl
instance fa173_2 : FA prog 173 2 2 := fa_of underlying173 rfl rfl rfl ti168 rfl
instance fa173_3 : FA prog 173 3 3 := fa_of underlying173 rfl rfl rfl ti27 rfl
instance fa173_4 : FA prog 173 4 4 := fa_of underlying173 rfl rfl rfl ti171 rfl
instance fa173_5 : FA prog 173 5 6 := fa_of underlying173 rfl rfl rfl ti30 rfl
instance fa181_0 : FA prog 181 0 0 := fa_of underlying181 rfl rfl rfl ti22 rfl
instance fa181_1 : FA prog 181 1 1 := fa_of underlying181 rfl rfl rfl ti3 rfl
instance fa181_2 : FA prog 181 2 2 := fa_of underlying181 rfl rfl rfl ti3 rfl
instance fa181_3 : FA prog 181 3 3 := fa_of underlying181 rfl rfl rfl ti3 rfl
instance fa193_0 : FA prog 193 0 0 := fa_of underlying193 rfl rfl rfl ti3 rfl
instance fa193_1 : FA prog 193 1 1 := fa_of underlying193 rfl rfl rfl ti2 rfl
instance fa193_2 : FA prog 193 2 2 := fa_of underlying193 rfl rfl rfl ti9 rfl
instance fa193_3 : FA prog 193 3 3 := fa_of underlying193 rfl rfl rfl ti191 rfl
instance fa195_0 : FA prog 195 0 0 := fa_of underlying195 rfl rfl rfl ti3 rfl
instance fa195_1 : FA prog 195 1 1 := fa_of underlying195 rfl rfl rfl ti9 rfl
instance fa195_2 : FA prog 195 2 2 := fa_of underlying195 rfl rfl rfl ti193 rfl
instance fa195_3 : FA prog 195 3 6 := fa_of underlying195 rfl rfl rfl ti89 rfl
instance fa195_4 : FA prog 195 4 7 := fa_of underlying195 rfl rfl rfl ti89 rfl
instance fa205_0 : FA prog 205 0 0 := fa_of underlying205 rfl rfl rfl ti188 rfl
instance fa205_1 : FA prog 205 1 1 := fa_of underlying205 rfl rfl rfl ti188 rfl
instance fa205_2 : FA prog 205 2 2 := fa_of underlying205 rfl rfl rfl ti188 rfl
instance fa208_1 : FA prog 208 1 1 := fa_of underlying208 rfl rfl rfl ti9 rfl
instance fa208_2 : FA prog 208 2 2 := fa_of underlying208 rfl rfl rfl ti9 rfl
instance fa210_0 : FA prog 210 0 0 := fa_of underlying210 rfl rfl rfl ti188 rfl
instance fa210_1 : FA prog 210 1 1 := fa_of underlying210 rfl rfl rfl ti209 rfl
instance fa237_1 : FA prog 237 1 1 := fa_of underlying237 rfl rfl rfl ti96 rfl
instance fa261_0 : FA prog 261 0 0 := fa_of underlying261 rfl rfl rfl ti200 rfl
instance fa261_1 : FA prog 261 1 1 := fa_of underlying261 rfl rfl rfl ti99 rfl
instance fa261_2 : FA prog 261 2 2 := fa_of underlying261 rfl rfl rfl ti259 rfl
instance fa274_0 : FA prog 274 0 0 := fa_of underlying274 rfl rfl rfl ti95 rfl
instance fa274_1 : FA prog 274 1 1 := fa_of underlying274 rfl rfl rfl ti4 rfl
instance fa29_0 : FA prog 29 0 0 := fa_of underlying29 rfl rfl rfl ti3 rfl
instance fa29_3 : FA prog 29 3 3 := fa_of underlying29 rfl rfl rfl ti22 rfl
instance fa37_0 : FA prog 37 0 0 := fa_of underlying37 rfl rfl rfl ti34 rfl
instance fa37_1 : FA prog 37 1 1 := fa_of underlying37 rfl rfl rfl ti35 rfl
instance fa45_0 : FA prog 45 0 0 := fa_of underlying45 rfl rfl rfl ti30 rfl
instance fa51_0 : FA prog 51 0 0 := fa_of underlying51 rfl rfl rfl ti30 rfl
instance fa56_0 : FA prog 56 0 0 := fa_of underlying56 rfl rfl rfl ti3 rfl
instance fa56_1 : FA prog 56 1 1 := fa_of underlying56 rfl rfl rfl ti3 rfl
instance fa59_0 : FA prog 59 0 0 := fa_of underlying59 rfl rfl rfl ti26 rfl
instance fa59_1 : FA prog 59 1 1 := fa_of underlying59 rfl rfl rfl ti27 rfl
instance fa59_2 : FA prog 59 2 2 := fa_of underlying59 rfl rfl rfl ti26 rfl
instance fa69_0 : FA prog 69 0 0 := fa_of underlying69 rfl rfl rfl ti54 rfl
instance fa69_1 : FA prog 69 1 1 := fa_of underlying69 rfl rfl rfl ti64 rfl
instance fa69_2 : FA prog 69 2 2 := fa_of underlying69 rfl rfl rfl ti65 rfl
instance fa69_3 : FA prog 69 3 3 := fa_of underlying69 rfl rfl rfl ti66 rfl
instance fa69_4 : FA prog 69 4 4 := fa_of underlying69 rfl rfl rfl ti3 rfl
instance fa69_5 : FA prog 69 5 5 := fa_of underlying69 rfl rfl rfl ti3 rfl
instance fa69_6 : FA prog 69 6 6 := fa_of underlying69 rfl rfl rfl ti3 rfl
instance fa69_7 : FA prog 69 7 7 := fa_of underlying69 rfl rfl rfl ti22 rfl
instance fa69_8 : FA prog 69 8 8 := fa_of underlying69 rfl rfl rfl ti67 rfl
instance fa74_0 : FA prog 74 0 0 := fa_of underlying74 rfl rfl rfl ti9 rfl
instance fa74_1 : FA prog 74 1 1 := fa_of underlying74 rfl rfl rfl ti9 rfl
instance fa83_0 : FA prog 83 0 0 := fa_of underlying83 rfl rfl rfl ti76 rfl
instance fa83_2 : FA prog 83 2 2 := fa_of underlying83 rfl rfl rfl ti3 rfl
instance fa87_0 : FA prog 87 0 0 := fa_of underlying87 rfl rfl rfl ti3 rfl
instance fa87_1 : FA prog 87 1 1 := fa_of underlying87 rfl rfl rfl ti9 rfl
instance fa91_0 : FA prog 91 0 0 := fa_of underlying91 rfl rfl rfl ti3 rfl
instance fa91_1 : FA prog 91 1 1 := fa_of underlying91 rfl rfl rfl ti9 rfl
instance fa91_2 : FA prog 91 2 2 := fa_of underlying91 rfl rfl rfl ti87 rfl
instance fa91_4 : FA prog 91 4 6 := fa_of underlying91 rfl rfl rfl ti3 rfl
instance fa91_5 : FA prog 91 5 7 := fa_of underlying91 rfl rfl rfl ti88 rfl
instance fa91_6 : FA prog 91 6 8 := fa_of underlying91 rfl rfl rfl ti89 rfl
instance fa98_0 : FA prog 98 0 0 := fa_of underlying98 rfl rfl rfl ti95 rfl
instance fa98_1 : FA prog 98 1 1 := fa_of underlying98 rfl rfl rfl ti95 rfl
instance fa98_2 : FA prog 98 2 2 := fa_of underlying98 rfl rfl rfl ti96 rfl
theorem pl103 : PL prog 103 #[(0, 1), (1, 1), (2, 1), (3, 1), (4, 1), (5, 1)] := pl_of underlying103 (fun _ => by kernel_rfl)
theorem pl107 : PL prog 107 #[(0, 1)] := pl_of underlying107 (fun _ => by kernel_rfl)
theorem pl114 : PL prog 114 #[(0, 1), (1, 1), (2, 1), (3, 1)] := pl_of underlying114 (fun _ => by kernel_rfl)
theorem pl117 : PL prog 117 #[(0, 1), (1, 1), (2, 1)] := pl_of underlying117 (fun _ => by kernel_rfl)
theorem pl120 : PL prog 120 #[(0, 1), (1, 1), (2, 1)] := pl_of underlying120 (fun _ => by kernel_rfl)
theorem pl133 : PL prog 133 #[(0, 1), (1, 1), (2, 1), (3, 1)] := pl_of underlying133 (fun _ => by kernel_rfl)
theorem pl149 : PL prog 149 #[(0, 1)] := pl_of underlying149 (fun _ => by kernel_rfl)
theorem pl157 : PL prog 157 #[(0, 1), (1, 6), (7, 1)] := pl_of underlying157 (fun _ => by kernel_rfl)
theorem pl159 : PL prog 159 #[(0, 1), (1, 2)] := pl_of underlying159 (fun _ => by kernel_rfl)
theorem pl171 : PL prog 171 #[(0, 1), (1, 1)] := pl_of underlying171 (fun _ => by kernel_rfl)
theorem pl173 : PL prog 173 #[(0, 1), (1, 1), (2, 1), (3, 1), (4, 2), (6, 1)] := pl_of underlying173 (fun _ => by kernel_rfl)
theorem pl181 : PL prog 181 #[(0, 1), (1, 1), (2, 1), (3, 1)] := pl_of underlying181 (fun _ => by kernel_rfl)
theorem pl193 : PL prog 193 #[(0, 1), (1, 1), (2, 1), (3, 1)] := pl_of underlying193 (fun _ => by kernel_rfl)
theorem pl195 : PL prog 195 #[(0, 1), (1, 1), (2, 4), (6, 1), (7, 1)] := pl_of underlying195 (fun _ => by kernel_rfl)
theorem pl208 : PL prog 208 #[(0, 1), (1, 1), (2, 1)] := pl_of underlying208 (fun _ => by kernel_rfl)
theorem pl210 : PL prog 210 #[(0, 1), (1, 1)] := pl_of underlying210 (fun _ => by kernel_rfl)
theorem pl237 : PL prog 237 #[(0, 1), (1, 1)] := pl_of underlying237 (fun _ => by kernel_rfl)
theorem pl261 : PL prog 261 #[(0, 1), (1, 1), (2, 1)] := pl_of underlying261 (fun _ => by kernel_rfl)
theorem pl274 : PL prog 274 #[(0, 1), (1, 1)] := pl_of underlying274 (fun _ => by kernel_rfl)
theorem pl29 : PL prog 29 #[(0, 1), (1, 1), (2, 1), (3, 1), (4, 1), (5, 1), (6, 1)] := pl_of underlying29 (fun _ => by kernel_rfl)
theorem pl45 : PL prog 45 #[(0, 1), (1, 1)] := pl_of underlying45 (fun _ => by kernel_rfl)
theorem pl51 : PL prog 51 #[(0, 1), (1, 1), (2, 1)] := pl_of underlying51 (fun _ => by kernel_rfl)
theorem pl56 : PL prog 56 #[(0, 1), (1, 1)] := pl_of underlying56 (fun _ => by kernel_rfl)
theorem pl59 : PL prog 59 #[(0, 1), (1, 1), (2, 1)] := pl_of underlying59 (fun _ => by kernel_rfl)
theorem pl69 : PL prog 69 #[(0, 1), (1, 1), (2, 1), (3, 1), (4, 1), (5, 1), (6, 1), (7, 1), (8, 1)] := pl_of underlying69 (fun _ => by kernel_rfl)
theorem pl74 : PL prog 74 #[(0, 1), (1, 1)] := pl_of underlying74 (fun _ => by kernel_rfl)
theorem pl83 : PL prog 83 #[(0, 1), (1, 1), (2, 1)] := pl_of underlying83 (fun _ => by kernel_rfl)
theorem pl87 : PL prog 87 #[(0, 1), (1, 1)] := pl_of underlying87 (fun _ => by kernel_rfl)
theorem pl91 : PL prog 91 #[(0, 1), (1, 1), (2, 2), (4, 2), (6, 1), (7, 1), (8, 1)] := pl_of underlying91 (fun _ => by kernel_rfl)
theorem pl98 : PL prog 98 #[(0, 1), (1, 1), (2, 1)] := pl_of underlying98 (fun _ => by kernel_rfl)
theorem zv171 : ∀ w, (zeroValue 171).run prog w = .ok (.agg #[.slice none 0 0, .slice none 0 0]) w := zv_of (by kernel_rfl)
theorem zv205 : ∀ w, (zeroValue 205).run prog w = .ok (.agg #[.slice none 0 0, .slice none 0 0, .slice none 0 0]) w := zv_of (by kernel_rfl)
theorem zv3 : ∀ w, (zeroValue 3).run prog w = .ok (.int .i64 0) w := zv_of (by kernel_rfl)
theorem zv87 : ∀ w, (zeroValue 87).run prog w = .ok (.agg #[.int .i64 0, S []]) w := zv_of (by kernel_rfl)
theorem zv99 : ∀ w, (zeroValue 99).run prog w = .ok (.pointer none) w := zv_of (by kernel_rfl)
end Go.Proofs.YtaenlbapejigbaaGreatDoor
namespace Go.Proofs
open Go.Shelf
def Tryz.laysC174_ren : Go.Shelf.Ren := ⟨fun | 174 => 61 | 247 => 97 | 245 => 98 | 287 => 127 | 279 => 128 | 280 => 129 | 281 => 130 | 282 => 131 | 321 => 149 | 322 => 150 | 316 => 151 | 171 => 153 | 205 => 152 | 243 => 162 | 246 => 170 | 283 => 180 | 284 => 181 | 285 => 182 | 286 => 183 | 129 => 193 | 317 => 192 | 318 => 194 | 319 => 195 | 320 => 196 | 337 => 197 | 338 => 198 | n => n, fun | 9 => 9 | 3 => 3 | 2 => 2 | 75 => 137 | 85 => 138 | 4 => 4 | 167 => 226 | 5 => 5 | 53 => 227 | 175 => 228 | 46 => 230 | 168 => 231 | 37 => 248 | 0 => 0 | 210 => 250 | 21 => 21 | 127 => 267 | 145 => 270 | 143 => 268 | 171 => 285 | 173 => 288 | 212 => 299 | 51 => 290 | 20 => 20 | 213 => 300 | 232 => 303 | 233 => 304 | 80 => 142 | n => n, fun | 15 => 0 | 16 => 1 | 17 => 3 | 18 => 4 | 19 => 5 | n => n⟩
theorem Tryz.laysC174 : Go.Proofs.LaysC.n174 Tryz.prog Tryz.laysC174_ren := {
  mixed := by kernel_rfl
  f129 := Tryz.func193.trans (congrArg some (by kernel_rfl))
  f171 := Tryz.func153.trans (congrArg some (by kernel_rfl))
  f174 := Tryz.func61.trans (congrArg some (by kernel_rfl))
  f205 := Tryz.func152.trans (congrArg some (by kernel_rfl))
  f243 := Tryz.func162.trans (congrArg some (by kernel_rfl))
  f245 := Tryz.func98.trans (congrArg some (by kernel_rfl))
  f246 := Tryz.func170.trans (congrArg some (by kernel_rfl))
  f247 := Tryz.func97.trans (congrArg some (by kernel_rfl))
  f279 := Tryz.func128.trans (congrArg some (by kernel_rfl))
  f280 := Tryz.func129.trans (congrArg some (by kernel_rfl))
  f281 := Tryz.func130.trans (congrArg some (by kernel_rfl))
  f282 := Tryz.func131.trans (congrArg some (by kernel_rfl))
  f283 := Tryz.func180.trans (congrArg some (by kernel_rfl))
  f284 := Tryz.func181.trans (congrArg some (by kernel_rfl))
  f285 := Tryz.func182.trans (congrArg some (by kernel_rfl))
  f286 := Tryz.func183.trans (congrArg some (by kernel_rfl))
  f287 := Tryz.func127.trans (congrArg some (by kernel_rfl))
  f316 := Tryz.func151.trans (congrArg some (by kernel_rfl))
  f317 := Tryz.func192.trans (congrArg some (by kernel_rfl))
  f318 := Tryz.func194.trans (congrArg some (by kernel_rfl))
  f319 := Tryz.func195.trans (congrArg some (by kernel_rfl))
  f320 := Tryz.func196.trans (congrArg some (by kernel_rfl))
  f321 := Tryz.func149.trans (congrArg some (by kernel_rfl))
  f322 := Tryz.func150.trans (congrArg some (by kernel_rfl))
  f337 := Tryz.func197.trans (congrArg some (by kernel_rfl))
  f338 := Tryz.func198.trans (congrArg some (by kernel_rfl))
  t0 := Tryz.underlying0
  a0 := Tryz.isAgg0
  z0 := Tryz.sizeOf0
  v0 := Tryz.zeroValue0
  t2 := Tryz.underlying2
  a2 := Tryz.isAgg2
  z2 := Tryz.sizeOf2
  v2 := Tryz.zeroValue2
  t3 := Tryz.underlying3
  a3 := Tryz.isAgg3
  z3 := Tryz.sizeOf3
  v3 := Tryz.zeroValue3
  t4 := Tryz.underlying4
  a4 := Tryz.isAgg4
  z4 := Tryz.sizeOf4
  v4 := Tryz.zeroValue4
  t5 := Tryz.underlying5
  a5 := Tryz.isAgg5
  z5 := Tryz.sizeOf5
  v5 := Tryz.zeroValue5
  t9 := Tryz.underlying9
  a9 := Tryz.isAgg9
  z9 := Tryz.sizeOf9
  v9 := Tryz.zeroValue9
  t20 := Tryz.underlying20
  a20 := Tryz.isAgg20
  z20 := Tryz.sizeOf20
  v20 := Tryz.zeroValue20
  t21 := Tryz.underlying21
  a21 := Tryz.isAgg21
  z21 := Tryz.sizeOf21
  v21 := Tryz.zeroValue21
  t37 := Tryz.underlying248
  a37 := Tryz.isAgg248
  z37 := Tryz.sizeOf248
  v37 := Tryz.zeroValue248
  t46 := Tryz.underlying230
  a46 := Tryz.isAgg230
  z46 := Tryz.sizeOf230
  v46 := Tryz.zeroValue230
  t51 := Tryz.underlying290
  a51 := Tryz.isAgg290
  z51 := Tryz.sizeOf290
  v51 := Tryz.zeroValue290
  t53 := Tryz.underlying227
  a53 := Tryz.isAgg227
  z53 := Tryz.sizeOf227
  v53 := Tryz.zeroValue227
  t75 := Tryz.underlying137
  a75 := Tryz.isAgg137
  z75 := Tryz.sizeOf137
  v75 := Tryz.zeroValue137
  t85 := Tryz.underlying138
  a85 := Tryz.isAgg138
  z85 := Tryz.sizeOf138
  v85 := Tryz.zeroValue138
  t127 := Tryz.underlying267
  a127 := Tryz.isAgg267
  z127 := Tryz.sizeOf267
  v127 := Tryz.zeroValue267
  t143 := Tryz.underlying268
  a143 := Tryz.isAgg268
  z143 := Tryz.sizeOf268
  v143 := Tryz.zeroValue268
  t145 := Tryz.underlying270
  a145 := Tryz.isAgg270
  z145 := Tryz.sizeOf270
  v145 := Tryz.zeroValue270
  t167 := Tryz.underlying226
  a167 := Tryz.isAgg226
  z167 := Tryz.sizeOf226
  v167 := Tryz.zeroValue226
  t168 := Tryz.underlying231
  a168 := Tryz.isAgg231
  z168 := Tryz.sizeOf231
  v168 := Tryz.zeroValue231
  t171 := Tryz.underlying285
  a171 := Tryz.isAgg285
  z171 := Tryz.sizeOf285
  v171 := Tryz.zeroValue285
  t173 := Tryz.underlying288
  a173 := Tryz.isAgg288
  z173 := Tryz.sizeOf288
  v173 := Tryz.zeroValue288
  t175 := Tryz.underlying228
  a175 := Tryz.isAgg228
  z175 := Tryz.sizeOf228
  v175 := Tryz.zeroValue228
  t210 := Tryz.underlying250
  a210 := Tryz.isAgg250
  z210 := Tryz.sizeOf250
  v210 := Tryz.zeroValue250
  t212 := Tryz.underlying299
  a212 := Tryz.isAgg299
  z212 := Tryz.sizeOf299
  v212 := Tryz.zeroValue299
  t213 := Tryz.underlying300
  a213 := Tryz.isAgg300
  z213 := Tryz.sizeOf300
  t232 := Tryz.underlying303
  a232 := Tryz.isAgg303
  z232 := Tryz.sizeOf303
  v232 := Tryz.zeroValue303
  t233 := Tryz.underlying304
  a233 := Tryz.isAgg304
  z233 := Tryz.sizeOf304
  v233 := Tryz.zeroValue304
  g15 := by kernel_rfl
  g16 := by kernel_rfl
  g17 := by kernel_rfl
  g18 := by kernel_rfl
  g19 := by kernel_rfl
  t80 := Tryz.underlying142
  a80 := Tryz.isAgg142
  z80 := Tryz.sizeOf142
  v80 := Tryz.zeroValue142
  i0 := by kernel_rfl
  i2 := by kernel_rfl
  i3 := by kernel_rfl
  i4 := by kernel_rfl
  i5 := by kernel_rfl
  i9 := by kernel_rfl
  i20 := by kernel_rfl
  i21 := by kernel_rfl
  i37 := by kernel_rfl
  i46 := by kernel_rfl
  i51 := by kernel_rfl
  i53 := by kernel_rfl
  i75 := by kernel_rfl
  i80 := by kernel_rfl
  i85 := by kernel_rfl
  i127 := by kernel_rfl
  i143 := by kernel_rfl
  i145 := by kernel_rfl
  i167 := by kernel_rfl
  i168 := by kernel_rfl
  i171 := by kernel_rfl
  i173 := by kernel_rfl
  i175 := by kernel_rfl
  i210 := by kernel_rfl
  i212 := by kernel_rfl
  i232 := by kernel_rfl
  i233 := by kernel_rfl
  m15 := by kernel_rfl
  m16 := by kernel_rfl
  m17 := by kernel_rfl
  m18 := by kernel_rfl
  m19 := by kernel_rfl
  c0 := by kernel_rfl
  c2 := by kernel_rfl
  c3 := by kernel_rfl
  c4 := by kernel_rfl
  c5 := by kernel_rfl
  c9 := by kernel_rfl
  c20 := by kernel_rfl
  c21 := by kernel_rfl
  c37 := by kernel_rfl
  c46 := by kernel_rfl
  c51 := by kernel_rfl
  c53 := by kernel_rfl
  c75 := by kernel_rfl
  c80 := by kernel_rfl
  c85 := by kernel_rfl
  c127 := by kernel_rfl
  c143 := by kernel_rfl
  c145 := by kernel_rfl
  c167 := by kernel_rfl
  c168 := by kernel_rfl
  c171 := by kernel_rfl
  c173 := by kernel_rfl
  c175 := by kernel_rfl
  c210 := by kernel_rfl
  c212 := by kernel_rfl
  c213 := by kernel_rfl
  c232 := by kernel_rfl
  c233 := by kernel_rfl }
open Go.RowKit in
theorem Tryz.strconv_ParseInt_10_at64_ok (s : ByteArray) (hmax : s.size ≤ 9223372036854775806) (v : Int) (h : Lib.parseIntB 64 s.data.toList = .ok v) (w : World) :
    Calls Tryz.prog 61 #[.string s, .int .i64 10, .int .i64 64] w fun e w' => e = .returned (.tuple #[.int .i64 v, .nilIface]) ∧ (w' = w ∨ ∃ t, w' = Lib.bytesWorld w 5 t) := Any.strconv_ParseInt_10_at64_ok Tryz.laysC174 s hmax v h w
def Tryz.lays144_ren : Go.Shelf.Ren := ⟨fun | 144 => 133 | 143 => 154 | 219 => 163 | 217 => 171 | 225 => 172 | 224 => 173 | 267 => 174 | 266 => 184 | 314 => 185 | n => n, fun | 9 => 9 | 4 => 4 | 3 => 3 | 5 => 5 | 46 => 230 | 146 => 291 | 51 => 290 | n => n, fun | 1 => 2 | n => n⟩
theorem Tryz.lays144 : Go.Proofs.Lays.n144 Tryz.prog Tryz.lays144_ren := {
  mixed := by kernel_rfl
  f143 := Tryz.func154.trans (congrArg some (by kernel_rfl))
  f144 := Tryz.func133.trans (congrArg some (by kernel_rfl))
  f217 := Tryz.func171.trans (congrArg some (by kernel_rfl))
  f219 := Tryz.func163.trans (congrArg some (by kernel_rfl))
  f224 := Tryz.func173.trans (congrArg some (by kernel_rfl))
  f225 := Tryz.func172.trans (congrArg some (by kernel_rfl))
  f266 := Tryz.func184.trans (congrArg some (by kernel_rfl))
  f267 := Tryz.func174.trans (congrArg some (by kernel_rfl))
  f314 := Tryz.func185.trans (congrArg some (by kernel_rfl))
  t3 := Tryz.underlying3
  a3 := Tryz.isAgg3
  z3 := Tryz.sizeOf3
  v3 := Tryz.zeroValue3
  t4 := Tryz.underlying4
  a4 := Tryz.isAgg4
  z4 := Tryz.sizeOf4
  v4 := Tryz.zeroValue4
  t5 := Tryz.underlying5
  a5 := Tryz.isAgg5
  z5 := Tryz.sizeOf5
  v5 := Tryz.zeroValue5
  t9 := Tryz.underlying9
  a9 := Tryz.isAgg9
  z9 := Tryz.sizeOf9
  v9 := Tryz.zeroValue9
  t46 := Tryz.underlying230
  a46 := Tryz.isAgg230
  z46 := Tryz.sizeOf230
  v46 := Tryz.zeroValue230
  t51 := Tryz.underlying290
  a51 := Tryz.isAgg290
  z51 := Tryz.sizeOf290
  v51 := Tryz.zeroValue290
  t146 := Tryz.underlying291
  a146 := Tryz.isAgg291
  z146 := Tryz.sizeOf291
  v146 := Tryz.zeroValue291
  g1 := by kernel_rfl }
open Go.RowKit Go.Lib in
theorem Tryz.strings_Contains (s sub : ByteArray) (m : Int) (w : World) (hs : s.size < 4294967281) (hm : w.cell? ⟨2, 0, none⟩ = some (.int .i64 m)) :
    Calls Tryz.prog 133 #[.string s, .string sub] w fun e w' => e = .returned (.bool (Lib.contains s.data.toList sub.data.toList)) ∧ w' = w := Any.strings_Contains Tryz.lays144 s sub m w hs hm
def Tryz.lays107_ren : Go.Shelf.Ren := ⟨fun | 107 => 123 | 108 => 148 | n => n, fun | 28 => 27 | 3 => 3 | 4 => 4 | 0 => 0 | n => n, fun | n => n⟩
theorem Tryz.lays107 : Go.Proofs.Lays.n107 Tryz.prog Tryz.lays107_ren := {
  mixed := by kernel_rfl
  f107 := Tryz.func123.trans (congrArg some (by kernel_rfl))
  f108 := Tryz.func148.trans (congrArg some (by kernel_rfl))
  t0 := Tryz.underlying0
  a0 := Tryz.isAgg0
  z0 := Tryz.sizeOf0
  v0 := Tryz.zeroValue0
  t3 := Tryz.underlying3
  a3 := Tryz.isAgg3
  z3 := Tryz.sizeOf3
  v3 := Tryz.zeroValue3
  t4 := Tryz.underlying4
  a4 := Tryz.isAgg4
  z4 := Tryz.sizeOf4
  v4 := Tryz.zeroValue4
  t28 := Tryz.underlying27
  a28 := Tryz.isAgg27
  z28 := Tryz.sizeOf27
  v28 := Tryz.zeroValue27 }
open Go.Lib in
theorem Tryz.slices_Contains_int (b off n c : Nat) (zs : List Int) (x : Int) (w : World) (hz : n ≤ zs.length) (hbig : n ≤ 9223372036854775807) (hc : ∀ j, j < zs.length → w.cell? ⟨b, off + j, none⟩ = some (.int .i64 (zs.getD j 0))) :
    Calls Tryz.prog 123 #[.slice (some ⟨b, off, none⟩) n c, .int .i64 x] w fun e w' => e = .returned (.bool ((zs.take n).contains x)) ∧ w' = w := Any.slices_Contains_int Tryz.lays107 b off n c zs x w hz hbig hc
open Go.Lib in
theorem Tryz.slices_Contains_int_empty (a : Option Addr) (c : Nat) (x : Int) (w : World) :
    Calls Tryz.prog 123 #[.slice a 0 c, .int .i64 x] w fun e w' => e = .returned (.bool false) ∧ w' = w := Any.slices_Contains_int_empty Tryz.lays107 a c x w
def Tryz.lays110_ren : Go.Shelf.Ren := ⟨fun | 110 => 109 | 109 => 141 | n => n, fun | 31 => 188 | 9 => 9 | 4 => 4 | 3 => 3 | 0 => 0 | n => n, fun | n => n⟩
theorem Tryz.lays110 : Go.Proofs.Lays.n110 Tryz.prog Tryz.lays110_ren := {
  mixed := by kernel_rfl
  f109 := Tryz.func141.trans (congrArg some (by kernel_rfl))
  f110 := Tryz.func109.trans (congrArg some (by kernel_rfl))
  t0 := Tryz.underlying0
  a0 := Tryz.isAgg0
  z0 := Tryz.sizeOf0
  v0 := Tryz.zeroValue0
  t3 := Tryz.underlying3
  a3 := Tryz.isAgg3
  z3 := Tryz.sizeOf3
  v3 := Tryz.zeroValue3
  t4 := Tryz.underlying4
  a4 := Tryz.isAgg4
  z4 := Tryz.sizeOf4
  v4 := Tryz.zeroValue4
  t9 := Tryz.underlying9
  a9 := Tryz.isAgg9
  z9 := Tryz.sizeOf9
  v9 := Tryz.zeroValue9
  t31 := Tryz.underlying188
  a31 := Tryz.isAgg188
  z31 := Tryz.sizeOf188
  v31 := Tryz.zeroValue188 }
open Go.Lib in
theorem Tryz.slices_Contains_string (b off n c : Nat) (zs : List ByteArray) (x : ByteArray) (w : World) (hz : n ≤ zs.length) (hbig : n ≤ 9223372036854775807) (hc : ∀ j, j < zs.length → w.cell? ⟨b, off + j, none⟩ = some (.string (zs.getD j ByteArray.empty))) :
    Calls Tryz.prog 109 #[.slice (some ⟨b, off, none⟩) n c, .string x] w fun e w' => e = .returned (.bool (Lib.containsS (zs.take n) x)) ∧ w' = w := Any.slices_Contains_string Tryz.lays110 b off n c zs x w hz hbig hc
open Go.Lib in
theorem Tryz.slices_Contains_string_empty (a : Option Addr) (c : Nat) (x : ByteArray) (w : World) :
    Calls Tryz.prog 109 #[.slice a 0 c, .string x] w fun e w' => e = .returned (.bool false) ∧ w' = w := Any.slices_Contains_string_empty Tryz.lays110 a c x w
def Tryz.laysNm215_ren : Go.Shelf.Ren := ⟨fun | 15 => 116 | n => n, fun | 22 => 27 | 3 => 3 | 4 => 4 | n => n, fun | n => n⟩
theorem Tryz.laysNm215 : Go.Proofs.Lays2.n15 Tryz.prog Tryz.laysNm215_ren := {
  mixed := by kernel_rfl
  f15 := Tryz.func116.trans (congrArg some (by kernel_rfl))
  t3 := Tryz.underlying3
  a3 := Tryz.isAgg3
  z3 := Tryz.sizeOf3
  v3 := Tryz.zeroValue3
  t4 := Tryz.underlying4
  a4 := Tryz.isAgg4
  z4 := Tryz.sizeOf4
  v4 := Tryz.zeroValue4
  t22 := Tryz.underlying27
  a22 := Tryz.isAgg27
  z22 := Tryz.sizeOf27
  v22 := Tryz.zeroValue27
  i3 := by kernel_rfl }
open Go.RowKit Go.Lib in
theorem Tryz.slices_Clone_int (b off n c : Nat) (zs : List Int) (w : World) (hz : n ≤ zs.length) (hbig : n * 8 ≤ 140737488355328) (hc : ∀ j, j < zs.length → w.cell? ⟨b, off + j, none⟩ = some (.int .i64 (zs.getD j 0))) :
    Calls Tryz.prog 116 #[.slice (some ⟨b, off, none⟩) n c] w fun e w' => ∃ v', e = .returned v' ∧ w'.ownsRow w.heap.size 3 1 v' n ((zs.take n).map (Value.int .i64)) ∧ v' ≠ .slice none 0 0 ∧ Below w.heap.size w w' := Any.slices_Clone_int Tryz.laysNm215 b off n c zs w hz hbig hc
open Go.RowKit Go.Lib in
theorem Tryz.slices_Clone_int_nil (n c : Nat) (w : World) :
    Calls Tryz.prog 116 #[.slice none n c] w fun e w' => e = .returned (.slice none 0 0) ∧ w' = w := Any.slices_Clone_int_nil Tryz.laysNm215 n c w
open Go.RowKit Go.Lib in
theorem Tryz.slices_Clone_int_zero (a : Addr) (c : Nat) (w : World) :
    Calls Tryz.prog 116 #[.slice (some a) 0 c] w fun e w' => ∃ v', e = .returned v' ∧ w'.ownsRow w.heap.size 3 1 v' 0 [] ∧ v' ≠ .slice none 0 0 ∧ Below w.heap.size w w' := Any.slices_Clone_int_zero Tryz.laysNm215 a c w
def Tryz.laysSlE041_f117_ren : Go.Shelf.Ren := ⟨fun | 41 => 117 | n => n, fun | 22 => 169 | 23 => 4 | 4 => 4 | n => n, fun | n => n⟩
theorem Tryz.laysSlE041_f117 : Go.Proofs.SlLaysE0.n41 Tryz.prog Tryz.laysSlE041_f117_ren := {
  mixed := by kernel_rfl
  f41 := ⟨Tryz.f117.name, by decide, Tryz.func117.trans (congrArg some (by kernel_rfl))⟩
  t4 := Tryz.underlying4
  a4 := Tryz.isAgg4
  z4 := Tryz.sizeOf4
  v4 := Tryz.zeroValue4
  t22 := Tryz.underlying169
  a22 := Tryz.isAgg169
  z22 := Tryz.sizeOf169
  v22 := Tryz.zeroValue169 }
open Go.RowKit Go.Lib in
theorem Tryz.slices_Clone_f117 (i0 : TypeInfo) (z : Value) (size bytes : Nat) (hi : Tryz.prog.info? 4 = some i0) (hz0 : i0.zero = some z) (hz1 : i0.size = size) (hz2 : i0.bytes = bytes) (hzs : z.cells.size = size) (hsz : 0 < size) (z23 : ∀ w, (Go.sizeOf 4).run Tryz.prog w = .ok size w) (b off n c : Nat) (news : List Value) (w : World) (hl : news.length = n * size) (hn : n ≤ maxLen) (hbig : n * bytes ≤ 140737488355328) (hc : ∀ j u, news[j]? = some u → w.cell? ⟨b, off + j, none⟩ = some u) (h1 : ∀ u ∈ news, u.oneCell' = true) :
    Calls Tryz.prog 117 #[.slice (some ⟨b, off, none⟩) n c] w fun e w' => ∃ v', e = .returned v' ∧ w'.ownsRow w.heap.size 4 size v' n news ∧ v' ≠ .slice none 0 0 ∧ Below w.heap.size w w' := AnyE.slices_Clone Tryz.laysSlE041_f117 i0 z size bytes hi hz0 hz1 hz2 hzs hsz z23 b off n c news w hl hn hbig hc h1
open Go.RowKit Go.Lib in
theorem Tryz.slices_Clone_nil_f117 (n c : Nat) (w : World) :
    Calls Tryz.prog 117 #[.slice none n c] w fun e w' => e = .returned (.slice none 0 0) ∧ w' = w := AnyE.slices_Clone_nil Tryz.laysSlE041_f117 n c w
end Go.Proofs
namespace Go.Proofs.YtaenlbapejigbaaGreatDoor
open Go.Wk Go.Xt Go.Y Tryz
def Gm : M := fun w => ∃ m, w.cell? ⟨2, 0, none⟩ = some (.int .i64 m)
theorem pint_w {μ0 : M} {w0 w : World} {rsF : List Res} {l : List UInt8} {r : Int} (g : pint l = some r) (hS : Sq μ0 w0 w rsF) :
    CallsV prog 61 [S l, .int .i64 10, .int .i64 64] w (fun v w' => v = .tuple ⟨[.int .i64 r, .nilIface]⟩ ∧ Sq μ0 w0 w' rsF) := by
  unfold pint at g
  split at g
  · rename_i hl
    cases hp : Lib.parseIntB 64 l with
    | ok v =>
      rw [hp] at g
      obtain rfl := Option.some.inj g
      refine ⟨(strconv_ParseInt_10_at64_ok ⟨⟨l⟩⟩ hl v hp w).mono fun e w' he => ?_⟩
      obtain ⟨rfl, hw⟩ := he
      refine ⟨rfl, ?_⟩
      rcases hw with rfl | ⟨t, rfl⟩
      · exact hS
      · have h := Lib.bytesWorld_below w 5 t
        exact hS.grow ⟨h.os, h.tape, h.output, h.size, fun k hk _ => h.block k hk⟩
    | _ => rw [hp] at g; cases g
  · cases g
theorem scont_w {μ0 : M} {w0 w : World} {rsF : List Res} {l sub : List UInt8} {b : Bool} (hg : Le Gm μ0) (g : scont l sub = some b) (hS : Sq μ0 w0 w rsF) :
    CallsV prog 133 [S l, S sub] w (fun v w' => v = .bool b ∧ Sq μ0 w0 w' rsF) := by
  unfold scont at g
  split at g
  · rename_i hl
    obtain rfl := Option.some.inj g
    obtain ⟨m, hm⟩ := hg w hS.a
    refine ⟨(strings_Contains ⟨⟨l⟩⟩ ⟨⟨sub⟩⟩ m w hl hm).mono fun e w' he => ?_⟩
    obtain ⟨rfl, rfl⟩ := he
    exact ⟨rfl, hS⟩
  · cases g
end Go.Proofs.YtaenlbapejigbaaGreatDoor
namespace Go.Proofs.YtaenlbapejigbaaGreatDoor
open Go.Wk Go.Xt Go.Y Go.RowKit Tryz
section
variable {μ μ0 : M} {w0 w : World} {rsF rs : List Res}
def Cells1 (w : World) (v : Value) (vs : List Value) : Prop := (vs = [] ∧ ∃ a c, v = .slice a 0 c) ∨ ∃ b o c, v = .slice (some ⟨b, o, none⟩) vs.length c ∧ vs.length ≤ 9223372036854775807 ∧ ∀ j y, vs[j]? = some y → w.cell? ⟨b, o + j, none⟩ = some y
theorem rw_cells {α : Type} [Mo α] {f : α → Value} (hf : ∀ (μ : M) (l : List Value) (x : α), Mo.cs μ l x → l = [f x]) : ∀ {l : List α} {cells : List Value}, Rw μ cells l → cells = l.map f
  | [], cells, h => by rw [Rw] at h; simp [h]
  | x :: l, cells, h => by
    rw [Rw] at h
    obtain ⟨cs, t, rfl, h1, h2⟩ := h
    rw [hf _ _ _ h1, rw_cells hf h2]; rfl
theorem cells_row {α : Type} [Mo α] {f : α → Value} (hf : ∀ (μ : M) (l : List Value) (x : α), Mo.cs μ l x → l = [f x]) {v : Value} {T : TypeId} {l : List α} {cells : List Value} (h : Row w v T 1 l.length cells) (hr : Rw μ cells l) : Cells1 w v (l.map f) := by
  have e := rw_cells hf hr
  subst e
  rcases h.2 with ⟨rfl, h2⟩ | ⟨g, o, cap, cur, rfl, hg, h1, h2, h3, h4⟩
  · exact .inl ⟨by rw [List.length_eq_zero_iff.1 h2]; rfl, none, 0, rfl⟩
  · refine .inr ⟨g, o, cap, by simp, by simp; exact Nat.le_trans h1 (Nat.le_trans h2 (by decide)), fun j y hj => ?_⟩
    rw [cell_of_row w g (o + j) cur T (0, 0) hg]
    rw [← h4, List.getElem?_take] at hj
    split at hj
    · rw [List.getElem?_drop] at hj; simpa using hj
    · cases hj
theorem cells_sl {α : Type} [Mo α] {f : α → Value} (hf : ∀ (μ : M) (l : List Value) (x : α), Mo.cs μ l x → l = [f x]) (hsz : Mo.sz α = 1) {a : Option Addr} {c : Nat} {l : List α} (h : Sl μ a c l) (hw : μ w) : Cells1 w (.slice a l.length c) (l.map f) := by
  rcases h.el with rfl | ⟨b, o, rfl, gg, hel⟩
  · exact .inl ⟨rfl, a, c, rfl⟩
  · refine .inr ⟨b, o, c, by simp, by simp; exact Sl.len h, fun j y hj => ?_⟩
    simp only [List.getElem?_map, Option.map_eq_some_iff] at hj
    obtain ⟨x, hx, rfl⟩ := hj
    obtain ⟨h1, h2⟩ := hel j x hx
    rw [hf _ _ _ h2, hsz] at h1
    have := h1 w hw 0 _ rfl
    simpa using this
theorem str1 (μ : M) (l : List Value) (x : List UInt8) (h : Mo.cs μ l x) : l = [S x] := h
theorem int1 (μ : M) (l : List Value) (x : Int) (h : Mo.cs μ l x) : l = [.int .i64 x] := h
theorem contains_s_c {v : Value} {l : List (List UInt8)} {x : List UInt8} (h : Cells1 w v (l.map S)) : CallsV prog 109 [v, S x] w (fun v w' => v = .bool (l.contains x) ∧ w' = w) := by
  rcases h with ⟨h1, a, c, rfl⟩ | ⟨b, o, c, rfl, hl, hc⟩
  · obtain rfl : l = [] := List.map_eq_nil_iff.1 h1
    exact ⟨(slices_Contains_string_empty a c ⟨⟨x⟩⟩ w).mono fun e w' he => by
      obtain ⟨rfl, rfl⟩ := he
      exact ⟨rfl, rfl⟩⟩
  · refine ⟨(slices_Contains_string b o (l.map S).length c (l.map fun y => ⟨⟨y⟩⟩) ⟨⟨x⟩⟩ w (by simp) hl ?_).mono fun e w' he => ?_⟩
    · intro j hj
      have hj2 : j < l.length := by simpa using hj
      rw [hc j (S l[j]) (by simp [hj2])]
      simp [List.getElem?_eq_getElem hj2, S]
    · obtain ⟨rfl, rfl⟩ := he
      refine ⟨?_, rfl⟩
      congr 1
      rw [List.take_of_length_le (by simp), Bool.eq_iff_iff, Lib.containsS_iff, List.contains_iff_mem]
      constructor
      · intro hm
        obtain ⟨y, hy, e⟩ := List.mem_map.1 hm
        have e2 : y = x := congrArg (fun b : ByteArray => b.data.toList) e
        rwa [← e2]
      · exact fun hm => List.mem_map.2 ⟨x, hm, rfl⟩
theorem contains_i_c {v : Value} {l : List Int} {x : Int} (h : Cells1 w v (l.map (Value.int .i64))) : CallsV prog 123 [v, .int .i64 x] w (fun v w' => v = .bool (l.contains x) ∧ w' = w) := by
  rcases h with ⟨h1, a, c, rfl⟩ | ⟨b, o, c, rfl, hl, hc⟩
  · obtain rfl : l = [] := List.map_eq_nil_iff.1 h1
    exact ⟨(slices_Contains_int_empty a c x w).mono fun e w' he => by
      obtain ⟨rfl, rfl⟩ := he
      exact ⟨rfl, rfl⟩⟩
  · refine ⟨(slices_Contains_int b o (l.map (Value.int .i64)).length c l x w (by simp) hl ?_).mono fun e w' he => ?_⟩
    · intro j hj
      rw [hc j (.int .i64 l[j]) (by simp [hj])]
      simp [List.getElem?_eq_getElem hj]
    · obtain ⟨rfl, rfl⟩ := he
      refine ⟨?_, rfl⟩
      rw [List.take_of_length_le (by simp)]
theorem clone_i_c {v : Value} {l : List Int} (hl : l.length ≤ 65536) (h : Cells1 w v (l.map (Value.int .i64))) (hS : Sq μ0 w0 w rs) :
    CallsV prog 116 [v] w (fun v' w' => Sq μ0 w0 w' (.row v' 3 1 l.length (l.map (Value.int .i64)) :: rs)) := by
  rcases h with ⟨h1, a, c, rfl⟩ | ⟨b, o, c, rfl, hll, hc⟩
  · obtain rfl : l = [] := List.map_eq_nil_iff.1 h1
    cases a with
    | none => exact ⟨(slices_Clone_int_nil 0 c w).mono fun e w' he => by
        obtain ⟨rfl, rfl⟩ := he
        exact hS.nilRow 3 1⟩
    | some a => exact ⟨(slices_Clone_int_zero a c w).mono fun e w' he => by
        obtain ⟨v', rfl, ho, -, hb⟩ := he
        obtain ⟨hr, hk⟩ := row_of_owns ho
        exact hS.newRow ⟨hb.os, hb.tape, hb.output, hb.size, fun k hk _ => hb.block k hk⟩ hr hk⟩
  · refine ⟨(slices_Clone_int b o (l.map (Value.int .i64)).length c l w (by simp) (by simp; omega) ?_).mono fun e w' he => ?_⟩
    · intro j hj
      rw [hc j (.int .i64 l[j]) (by simp [hj])]
      simp [List.getElem?_eq_getElem hj]
    · obtain ⟨v', rfl, ho, -, hb⟩ := he
      rw [List.take_of_length_le (by simp), List.length_map] at ho
      obtain ⟨hr, hk⟩ := row_of_owns ho
      exact hS.newRow ⟨hb.os, hb.tape, hb.output, hb.size, fun k hk _ => hb.block k hk⟩ hr hk
theorem clone_b_c {v : Value} {l : List Bool} (hl : l.length ≤ 65536) (h : Cells1 w v (l.map Value.bool)) (hS : Sq μ0 w0 w rs) :
    CallsV prog 117 [v] w (fun v' w' => Sq μ0 w0 w' (.row v' 4 1 l.length (l.map Value.bool) :: rs)) := by
  rcases h with ⟨h1, a, c, rfl⟩ | ⟨b, o, c, rfl, hll, hc⟩
  · obtain rfl : l = [] := List.map_eq_nil_iff.1 h1
    cases a with
    | none => exact ⟨(slices_Clone_nil_f117 0 c w).mono fun e w' he => by
        obtain ⟨rfl, rfl⟩ := he
        exact hS.nilRow 4 1⟩
    | some a =>
      refine enter func117 rfl (frm := [_, _, _, _, _, _, _, _]) rfl ?_
      refine cseq ?_
      refine creg ?_
      refine wl (s_assign ec (dt p2) ?_)
      refine wnil ?_
      refine xn ?_
      refine cseq ?_
      refine cseq ?_
      refine creg ?_
      refine wl (s_move (et d0) (dt p3) ?_)
      refine wl (s_eqnsl underlying169 (et d3) (dt p4) ?_)
      refine wnil ?_
      refine xn ?_
      refine ciff (et d4) ?_
      refine cskip ?_
      refine xn ?_
      refine cseq ?_
      refine creg ?_
      refine wl (s_bsl0 underlying169 ti4 hS ?_); clear hS; intro b5 w1 hb5 hS; refine pu (dt p5) ?_
      replace hS := hS.blkRow (n := 0) (sz := Mo.sz Bool) d0 rfl (by decide) p0
      refine wl (s_move (et d0) (dt p6) ?_)
      refine wl (s_appS (α := Bool) (l := []) (ys := []) (news := []) underlying169 ti4 rfl (et d5) (et d6) hS d0 (fun e => absurd rfl e) rfl (show app [] [] = some [] from rfl) (by decide) ?_); clear hS; intro v2 w2 rs_ hp_ hS; cases (show _ = rs_ from hp_)
      replace hS := Sep.reput hS p0; refine pu (dt p7) ?_
      refine wl (s_assign (et d7) (dt p2) ?_)
      refine wnil ?_
      refine xn ?_
      refine cret ?_
      refine ret1 rfl d2 ?_
      exact hS
  · have hi : ∃ i z, prog.info? 4 = some i ∧ i.zero = some z ∧ i.size = 1 ∧ i.bytes = 1 ∧ z.cells.size = 1 := by
      obtain ⟨i, z, h1, h2, h3, h4, h5⟩ := (ti4).inf
      exact ⟨i, z, h1, h2, h4, h5, by rw [h3]; rfl⟩
    obtain ⟨i, z, h1, h2, h3, h4, h5⟩ := hi
    refine ⟨(slices_Clone_f117 i z 1 1 h1 h2 h3 h4 h5 (by decide) (fun w => (ti4).sizeOf) b o (l.map Value.bool).length c (l.map Value.bool) w (by simp) (by simp [maxLen]; omega) (by simp; omega) hc (fun u hu => ?_)).mono fun e w' he => ?_⟩
    · obtain ⟨x, -, rfl⟩ := List.mem_map.1 hu; rfl
    · obtain ⟨v', rfl, ho, -, hb⟩ := he
      rw [List.length_map] at ho
      obtain ⟨hr, hk⟩ := row_of_owns ho
      exact hS.newRow ⟨hb.os, hb.tape, hb.output, hb.size, fun k hk _ => hb.block k hk⟩ hr hk
theorem bool1 (μ : M) (l : List Value) (x : Bool) (h : Mo.cs μ l x) : l = [.bool x] := h
theorem rw_of_map {α : Type} [Mo α] {f : α → Value} (hf : ∀ (μ : M) (x : α), Mo.cs μ [f x] x) : ∀ (l : List α), Rw μ (l.map f) l
  | [] => rfl
  | x :: l => ⟨[f x], _, rfl, hf μ x, rw_of_map hf l⟩
end
end Go.Proofs.YtaenlbapejigbaaGreatDoor
