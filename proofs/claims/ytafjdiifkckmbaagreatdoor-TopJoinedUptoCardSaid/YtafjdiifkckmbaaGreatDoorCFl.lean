/- Texts of Fl. -/
import Derived.Test.YtafjdiifkckmbaaGreatDoorCXt
import Derived.Test.YtafjdiifkckmbaaGreatDoorProg
import Derived.KernelRfl
import Derived.Test.YtafjdiifkckmbaaGreatDoorCXu
import Derived.Shelf.Strconv.Itoa0
import Derived.Shelf.Strconv.Itoa1
import Derived.Shelf.LaysM
import Derived.Shelf.Strconv.Itoa2
import Derived.Shelf.Strconv.Itoa3
import Derived.Shelf.Strconv.ParseIntEmpty
import Derived.Shelf.Strconv.Clone
import Derived.Shelf.Strconv.SyntaxError
import Derived.Shelf.LaysC
import Derived.Shelf.Strconv.ToError
import Derived.Shelf.Strconv.Lower
import Derived.Shelf.Strconv.ParseUint10
import Derived.Shelf.Strconv.ParseUint10Empty
import Derived.Shelf.Strconv.ParseUint10Any
import Derived.Shelf.Strconv.ParseInt10
import Derived.Shelf.Strconv.RangeError
import Derived.Shelf.Strconv.ToErrorRange
import Derived.Shelf.Strconv.ParseUintEmpty
import Derived.Shelf.Strconv.ParseUint10b64
import Derived.Shelf.Strconv.ParseUint10b32
import Derived.Shelf.Strconv.ParseUint10b16
import Derived.Shelf.Strconv.ParseUint10b8
import Derived.Shelf.Strconv.ParseUint10At
import Derived.Shelf.Strconv.ParseInt10At64
import Derived.Shelf.Strconv.ParseInt10At32
import Derived.Shelf.Strconv.ParseInt10At16
import Derived.Shelf.Strconv.ParseInt10At8
import Derived.Shelf.Strconv.ParseInt10All
import Derived.Shelf.Strconv.ParseIntPublic10
import Derived.Shelf.Strings.Search1
import Derived.Shelf.Strings.Search2
import Derived.Shelf.Strings.Search3
import Derived.Shelf.Strings.Shaped
import Derived.Shelf.Strings.Prefix
import Derived.Shelf.Slices.Turned
import Derived.Ground.Names2Prog
import Derived.Shelf.Slices.Clone
import Derived.Ground.SlgnProg
import Derived.Shelf.SlicesE.Clone
import Derived.Test.YtafjdiifkckmbaaGreatDoorCMd
import Derived.Lib.SlicesS
set_option linter.unusedSimpArgs false
set_option linter.unusedVariables false
set_option linter.unusedSectionVars false
namespace Go.Proofs.YtafjdiifkckmbaaGreatDoor
open Go.Mc Go.Kf
section
open Tryz
instance B1:fb prog 5:=ub func5
instance gG:fb prog 6:=ub func6
instance C1:fb prog 7:=ub func7
instance KU:fb prog 8:=ub func8
instance LU:fb prog 9:=ub func9
instance KZ:fb prog 11:=ub func11
instance LZ:fb prog 12:=ub func12
instance QF:fb prog 13:=ub func13
instance MZ:fb prog 14:=ub func14
instance tK:fb prog 15:=ub func15
instance RS:fb prog 16:=ub func16
instance SS:fb prog 17:=ub func17
instance TS:fb prog 18:=ub func18
instance NZ:fb prog 19:=ub func19
instance OZ:fb prog 20:=ub func20
instance PZ:fb prog 21:=ub func21
instance QZ:fb prog 22:=ub func22
instance RZ:fb prog 23:=ub func23
instance SZ:fb prog 24:=ub func24
instance TZ:fb prog 25:=ub func25
instance UZ:fb prog 26:=ub func26
instance US:fb prog 27:=ub func27
instance RF:fb prog 28:=ub func28
instance VZ:fb prog 29:=ub func29
instance WZ:fb prog 30:=ub func30
instance uK:fb prog 31:=ub func31
instance XZ:fb prog 32:=ub func32
instance VS:fb prog 33:=ub func33
instance YZ:fb prog 35:=ub func35
instance WS:fb prog 36:=ub func36
instance ZZ:fb prog 37:=ub func37
instance vK:fb prog 38:=ub func38
instance b0:fb prog 39:=ub func39
instance e0:fb prog 40:=ub func40
instance XS:fb prog 41:=ub func41
instance h0:fb prog 42:=ub func42
instance YS:fb prog 43:=ub func43
instance ZS:fb prog 44:=ub func44
instance aT:fb prog 45:=ub func45
instance bT:fb prog 46:=ub func46
instance cT:fb prog 47:=ub func47
instance dT:fb prog 48:=ub func48
instance j0:fb prog 49:=ub func49
instance Ct:fb prog 51:=ub func51
instance l0:fb prog 52:=ub func52
instance eT:fb prog 53:=ub func53
instance n0:fb prog 54:=ub func54
instance o0:fb prog 55:=ub func55
instance p0:fb prog 56:=ub func56
instance wK:fb prog 57:=ub func57
instance q0:fb prog 58:=ub func58
instance r0:fb prog 59:=ub func59
instance fT:fb prog 60:=ub func60
instance SF:fb prog 61:=ub func61
instance gT:fb prog 62:=ub func62
instance TF:fb prog 63:=ub func63
instance hT:fb prog 64:=ub func64
instance s0:fb prog 65:=ub func65
instance u0:fb prog 66:=ub func66
instance w0:fb prog 67:=ub func67
instance y0:fb prog 68:=ub func68
instance A0:fb prog 69:=ub func69
instance B0:fb prog 70:=ub func70
instance C0:fb prog 72:=ub func72
instance D0:fb prog 73:=ub func73
instance E0:fb prog 75:=ub func75
instance xK:fb prog 76:=ub func76
instance F0:fb prog 77:=ub func77
instance G0:fb prog 78:=ub func78
instance H0:fb prog 79:=ub func79
instance iT:fb prog 80:=ub func80
instance jT:fb prog 81:=ub func81
instance I0:fb prog 82:=ub func82
instance J0:fb prog 83:=ub func83
instance K0:fb prog 84:=ub func84
instance L0:fb prog 86:=ub func86
instance M0:fb prog 87:=ub func87
instance N0:fb prog 88:=ub func88
instance O0:fb prog 89:=ub func89
instance ry:fb prog 90:=ub func90
instance gB:fb prog 91:=ub func91
instance P0:fb prog 92:=ub func92
instance Q0:fb prog 93:=ub func93
instance S0:fb prog 94:=ub func94
instance T0:fb prog 95:=ub func95
instance U0:fb prog 96:=ub func96
instance V0:fb prog 97:=ub func97
instance W0:fb prog 98:=ub func98
instance UF:fb prog 99:=ub func99
instance YW:fb prog 100:=ub func100
instance ZW:fb prog 101:=ub func101
instance aX:fb prog 102:=ub func102
instance Mn:fb prog 103:=ub func103
instance pF:fb prog 104:=ub func104
instance bX:fb prog 105:=ub func105
instance cX:fb prog 106:=ub func106
instance dX:fb prog 110:=ub func110
instance eX:fb prog 111:=ub func111
instance Qu:fb prog 112:=ub func112
instance fX:fb prog 113:=ub func113
instance gX:fb prog 114:=ub func114
instance hX:fb prog 115:=ub func115
instance iX:fb prog 116:=ub func116
instance jX:fb prog 117:=ub func117
instance kX:fb prog 118:=ub func118
instance jR:fb prog 119:=ub func119
instance lX:fb prog 120:=ub func120
instance mX:fb prog 121:=ub func121
instance nX:fb prog 122:=ub func122
instance kR:fb prog 123:=ub func123
instance oX:fb prog 124:=ub func124
instance DJ:fb prog 125:=ub func125
instance lR:fb prog 126:=ub func126
instance mR:fb prog 127:=ub func127
instance nR:fb prog 128:=ub func128
instance oR:fb prog 129:=ub func129
instance pX:fb prog 130:=ub func130
instance qX:fb prog 131:=ub func131
instance rX:fb prog 132:=ub func132
instance sX:fb prog 133:=ub func133
instance tX:fb prog 136:=ub func136
instance qF:fb prog 139:=ub func139
instance EJ:fb prog 140:=ub func140
instance pR:fb prog 141:=ub func141
instance uX:fb prog 142:=ub func142
instance vX:fb prog 143:=ub func143
instance wX:fb prog 144:=ub func144
instance xX:fb prog 150:=ub func150
instance qR:fb prog 151:=ub func151
instance rR:fb prog 152:=ub func152
instance FJ:fb prog 153:=ub func153
instance yX:fb prog 154:=ub func154
instance zX:fb prog 155:=ub func155
instance AX:fb prog 156:=ub func156
instance sR:fb prog 159:=ub func159
instance GJ:fb prog 164:=ub func164
instance HJ:fb prog 165:=ub func165
instance tR:fb prog 166:=ub func166
instance uR:fb prog 167:=ub func167
instance BX:fb prog 168:=ub func168
instance CX:fb prog 169:=ub func169
instance DX:fb prog 170:=ub func170
instance EX:fb prog 172:=ub func172
instance FX:fb prog 175:=ub func175
instance GX:fb prog 176:=ub func176
instance dq:fb prog 177:=ub func177
instance rF:fb prog 178:=ub func178
instance vR:fb prog 185:=ub func185
instance HX:fb prog 186:=ub func186
instance IX:fb prog 188:=ub func188
instance IJ:fb prog 191:=ub func191
instance JX:fb prog 192:=ub func192
instance KX:fb prog 193:=ub func193
instance LX:fb prog 194:=ub func194
instance MX:fb prog 197:=ub func197
instance NX:fb prog 198:=ub func198
instance OX:fb prog 199:=ub func199
instance PX:fb prog 205:=ub func205
instance wR:fb prog 236:=ub func236
instance xR:fb prog 237:=ub func237
instance yR:fb prog 238:=ub func238
instance zR:fb prog 239:=ub func239
instance QX:fb prog 240:=ub func240
instance RX:fb prog 241:=ub func241
instance SX:fb prog 242:=ub func242
instance TX:fb prog 243:=ub func243
instance eg:wb prog 2 false [.int .i64 0] 1 8:=Lc (z:=.int .i64 0) underlying2
instance Yb:wb prog 3 false [.int .i64 0] 1 8:=Lc (z:=.int .i64 0) underlying3
instance Sm:wb prog 4 false [.bool false] 1 1:=Lc (z:=.bool false) underlying4
instance Dg:wb prog 9 false [S []] 1 16:=Lc (z:=S []) underlying9
instance NB:wb prog 22 false [.slice none 0 0] 1 24:=Lc (z:=.slice none 0 0) underlying22
instance gv:wb prog 24 false [.int .i64 0] 1 8:=Lc (z:=.int .i64 0) underlying24
instance cd:wb prog 26 true [.int .i64 0,.int .i64 0] 2 16:=Lc (z:=.agg #[.int .i64 0,.int .i64 0]) underlying26
instance Mw:wb prog 28 false [.slice none 0 0] 1 24:=Lc (z:=.slice none 0 0) underlying28
instance OB:wb prog 29 false [.slice none 0 0] 1 24:=Lc (z:=.slice none 0 0) underlying29
instance Qi:wb prog 31 true [.slice none 0 0,.slice none 0 0,.int .i64 0] 3 56:=Lc (z:=.agg #[.slice none 0 0,.slice none 0 0,.int .i64 0]) underlying31
instance Pj:wb prog 34 false [.slice none 0 0] 1 24:=Lc (z:=.slice none 0 0) underlying34
instance sj:wb prog 36 true [.int .i64 0,.int .i64 0,.int .i64 0,.slice none 0 0] 4 48:=Lc (z:=.agg #[.int .i64 0,.int .i64 0,.int .i64 0,.slice none 0 0]) underlying36
instance ec:wb prog 41 true [.int .i64 0,S []] 2 24:=Lc (z:=.agg #[.int .i64 0,S []]) underlying41
instance eW:wb prog 42 false [.slice none 0 0] 1 24:=Lc (z:=.slice none 0 0) underlying42
instance HG:wb prog 43 false [.slice none 0 0] 1 24:=Lc (z:=.slice none 0 0) underlying43
instance Ug:wb prog 45 true [.int .i64 0,S [],.int .i64 0,S [],.int .i64 0,S [],.int .i64 0,.slice none 0 0,.slice none 0 0] 9 128:=Lc (z:=.agg #[.int .i64 0,S [],.int .i64 0,S [],.int .i64 0,S [],.int .i64 0,.slice none 0 0,.slice none 0 0]) underlying45
instance IG:wb prog 48 false [.slice none 0 0] 1 24:=Lc (z:=.slice none 0 0) underlying48
instance PB:wb prog 49 false [.slice none 0 0] 1 24:=Lc (z:=.slice none 0 0) underlying49
instance Fo:wb prog 51 true [.slice none 0 0,.slice none 0 0] 2 48:=Lc (z:=.agg #[.slice none 0 0,.slice none 0 0]) underlying51
instance JG:wb prog 60 true [] 0 0:=Lc (z:=.agg #[]) underlying60
instance vL:wb prog 61 false [.pointer none] 1 8:=Lc (z:=.pointer none) underlying61
instance QB:wb prog 62 false [.map none] 1 8:=Lc (z:=.map none) underlying62
instance wL:wb prog 63 false [.map none] 1 8:=Lc (z:=.map none) underlying63
instance tq:wb prog 64 false [.map none] 1 8:=Lc (z:=.map none) underlying64
instance fW:wb prog 66 true [.map none,.map none,.map none,.int .i64 0] 4 32:=Lc (z:=.agg #[.map none,.map none,.map none,.int .i64 0]) underlying66
instance Wt:wb prog 69 false [.pointer none] 1 8:=Lc (z:=.pointer none) underlying69
instance xl:wb prog 70 false [.pointer none] 1 8:=Lc (z:=.pointer none) underlying70
instance gW:wb prog 72 true [.int .i64 0,.slice none 0 0] 2 32:=Lc (z:=.agg #[.int .i64 0,.slice none 0 0]) underlying72
instance Xt:wb prog 73 false [.pointer none] 1 8:=Lc (z:=.pointer none) underlying73
instance xL:wb prog 76 false [.nilFunc] 1 8:=Lc (z:=.nilFunc) underlying76
instance Ho:wb prog 77 false [.nilFunc] 1 8:=Lc (z:=.nilFunc) underlying77
instance yL:wb prog 78 false [.slice none 0 0] 1 24:=Lc (z:=.slice none 0 0) underlying78
instance nn:wb prog 79 false [.pointer none] 1 8:=Lc (z:=.pointer none) underlying79
instance hW:wb prog 81 true [.pointer none,.nilFunc,.slice none 0 0,.pointer none,.int .i64 0,.int .i64 0,.int .i64 0,.slice none 0 0] 8 96:=Lc (z:=.agg #[.pointer none,.nilFunc,.slice none 0 0,.pointer none,.int .i64 0,.int .i64 0,.int .i64 0,.slice none 0 0]) underlying81
instance Ry:wb prog 90 false [.pointer none] 1 8:=Lc (z:=.pointer none) underlying90
instance iW:wb prog 92 true [.int .i64 0,.int .i64 0] 2 16:=Lc (z:=.agg #[.int .i64 0,.int .i64 0]) underlying92
instance RB:wb prog 94 true [.int .i64 0,.int .i64 0] 2 16:=Lc (z:=.agg #[.int .i64 0,.int .i64 0]) underlying94
instance Yt:wb prog 96 false [.slice none 0 0] 1 24:=Lc (z:=.slice none 0 0) underlying96
instance jW:wb prog 99 false [.pointer none] 1 8:=Lc (z:=.pointer none) underlying99
instance tp:wb prog 103 false [.slice none 0 0] 1 24:=Lc (z:=.slice none 0 0) underlying103
instance zy:wb prog 105 true [.slice none 0 0,.slice none 0 0,.slice none 0 0] 3 72:=Lc (z:=.agg #[.slice none 0 0,.slice none 0 0,.slice none 0 0]) underlying105
instance Ay:wb prog 108 true [S [],S [],S []] 3 48:=Lc (z:=.agg #[S [],S [],S []]) underlying108
instance MU:wb prog 109 false [.pointer none] 1 8:=Lc (z:=.pointer none) underlying109
instance Br:wb prog 110 true [.slice none 0 0,.pointer none] 2 32:=Lc (z:=.agg #[.slice none 0 0,.pointer none]) underlying110
instance hG:wb prog 113 false [.pointer none] 1 8:=Lc (z:=.pointer none) underlying113
instance Cw:wb prog 115 false [.nilFunc] 1 8:=Lc (z:=.nilFunc) underlying115
instance By:wb prog 117 true [.pointer none,.pointer none,.bool false,.bool false,.bool false,.pointer none,.nilFunc,.nilFunc] 8 48:=Lc (z:=.agg #[.pointer none,.pointer none,.bool false,.bool false,.bool false,.pointer none,.nilFunc,.nilFunc]) underlying117
instance D1:wb prog 119 false [.pointer none] 1 8:=Lc (z:=.pointer none) underlying119
instance iG:wb prog 121 true [.nilFunc,.nilFunc] 2 16:=Lc (z:=.agg #[.nilFunc,.nilFunc]) underlying121
instance Cy:wb prog 122 false [.slice none 0 0] 1 24:=Lc (z:=.slice none 0 0) underlying122
instance E1:wb prog 127 false [.pointer none] 1 8:=Lc (z:=.pointer none) underlying127
instance NU:wb prog 129 true [.slice none 0 0,.int .i64 0,.int .i64 0] 3 40:=Lc (z:=.agg #[.slice none 0 0,.int .i64 0,.int .i64 0]) underlying129
instance OU:wb prog 133 false [.pointer none] 1 8:=Lc (z:=.pointer none) underlying133
instance PU:wb prog 135 true [.map none,.map none,.map none] 3 24:=Lc (z:=.agg #[.map none,.map none,.map none]) underlying135
instance Ao:wb prog 138 true [.int .i64 0,.int .i64 0] 2 16:=Lc (z:=.agg #[.int .i64 0,.int .i64 0]) underlying138
instance vB:wb prog 139 false [.slice none 0 0] 1 24:=Lc (z:=.slice none 0 0) underlying139
instance Bj:wb prog 141 true [.int .i64 0,.int .i64 0,.slice none 0 0,.int .i64 0,.int .i64 0,.slice none 0 0] 6 80:=Lc (z:=.agg #[.int .i64 0,.int .i64 0,.slice none 0 0,.int .i64 0,.int .i64 0,.slice none 0 0]) underlying141
instance dk:wb prog 144 true [.int .i64 0,.int .i64 0,.int .i64 0] 3 24:=Lc (z:=.agg #[.int .i64 0,.int .i64 0,.int .i64 0]) underlying144
instance Dy:wb prog 146 false [.slice none 0 0] 1 24:=Lc (z:=.slice none 0 0) underlying146
instance Dw:wb prog 148 false [.slice none 0 0] 1 24:=Lc (z:=.slice none 0 0) underlying148
instance QU:wb prog 150 true [.slice none 0 0,.slice none 0 0,.int .i64 0] 3 56:=Lc (z:=.agg #[.slice none 0 0,.slice none 0 0,.int .i64 0]) underlying150
instance Yu:wb prog 151 false [.pointer none] 1 8:=Lc (z:=.pointer none) underlying151
instance Ew:wb prog 154 false [.pointer none] 1 8:=Lc (z:=.pointer none) underlying154
instance RU:wb prog 157 false [.nilIface] 1 16:=Lc (z:=.nilIface) underlying157
instance XK:wb prog 158 false [.slice none 0 0] 1 24:=Lc (z:=.slice none 0 0) underlying158
instance wB:wb prog 159 false [.pointer none] 1 8:=Lc (z:=.pointer none) underlying159
instance SU:wb prog 160 false [.nilFunc] 1 8:=Lc (z:=.nilFunc) underlying160
instance TU:wb prog 162 true [.pointer none,.nilIface,.slice none 0 0,.pointer none,.int .i64 0,.int .i64 0,.int .i64 0,.slice none 0 0,.nilFunc] 9 112:=Lc (z:=.agg #[.pointer none,.nilIface,.slice none 0 0,.pointer none,.int .i64 0,.int .i64 0,.int .i64 0,.slice none 0 0,.nilFunc]) underlying162
instance UU:wb prog 165 true [.slice none 0 0,.map none] 2 32:=Lc (z:=.agg #[.slice none 0 0,.map none]) underlying165
instance jG:wb prog 167 false [.nilFunc] 1 8:=Lc (z:=.nilFunc) underlying167
instance Nt:wb prog 172 false [.pointer none] 1 8:=Lc (z:=.pointer none) underlying172
instance kG:wb prog 173 false [.slice none 0 0] 1 24:=Lc (z:=.slice none 0 0) underlying173
instance Ag:wb prog 175 true [.int .i64 0,.int .i64 0,S [],.slice none 0 0] 4 56:=Lc (z:=.agg #[.int .i64 0,.int .i64 0,S [],.slice none 0 0]) underlying175
instance ek:wb prog 177 true [.int .i64 0,S [],.int .i64 0,.int .i64 0,S [],.slice none 0 0,.slice none 0 0,.slice none 0 0] 8 128:=Lc (z:=.agg #[.int .i64 0,S [],.int .i64 0,.int .i64 0,S [],.slice none 0 0,.slice none 0 0,.slice none 0 0]) underlying177
instance Ot:wb prog 178 false [.nilFunc] 1 8:=Lc (z:=.nilFunc) underlying178
instance F1:wb prog 181 false [.pointer none] 1 8:=Lc (z:=.pointer none) underlying181
instance YK:wb prog 183 true [S [],.int .i64 0,.pointer none] 3 32:=Lc (z:=.agg #[S [],.int .i64 0,.pointer none]) underlying183
instance sl:wb prog 188 true [.int .i64 0,S [],.int .i64 0,.int .i64 0] 4 40:=Lc (z:=.agg #[.int .i64 0,S [],.int .i64 0,.int .i64 0]) underlying188
instance VU:wb prog 205 true [.int .i64 0] 1 8:=Lc (z:=.agg #[.int .i64 0]) underlying205
instance lG:wb prog 207 false [.slice none 0 0] 1 24:=Lc (z:=.slice none 0 0) underlying207
instance WU:wb prog 209 true [.pointer none,.int .i64 0,.int .i64 0,.slice none 0 0,.int .i64 0,.int .i64 0,.slice none 0 0,.slice none 0 0] 8 112:=Lc (z:=.agg #[.pointer none,.int .i64 0,.int .i64 0,.slice none 0 0,.int .i64 0,.int .i64 0,.slice none 0 0,.slice none 0 0]) underlying209
instance Zl:wb prog 211 true [S [],.int .i64 0,S []] 3 40:=Lc (z:=.agg #[S [],.int .i64 0,S []]) underlying211
instance XU:wb prog 214 false [.pointer none] 1 8:=Lc (z:=.pointer none) underlying214
instance YU:wb prog 216 true [.pointer none] 1 8:=Lc (z:=.agg #[.pointer none]) underlying216
instance ZU:wb prog 220 true [.slice none 0 0,.int .i64 0,.int .i64 0] 3 40:=Lc (z:=.agg #[.slice none 0 0,.int .i64 0,.int .i64 0]) underlying220
instance aV:wb prog 222 false [.slice none 0 0] 1 24:=Lc (z:=.slice none 0 0) underlying222
instance bV:wb prog 223 false [.pointer none] 1 8:=Lc (z:=.pointer none) underlying223
instance cV:wb prog 225 true [.int .i64 0,.pointer none,.slice none 0 0,.pointer none] 4 48:=Lc (z:=.agg #[.int .i64 0,.pointer none,.slice none 0 0,.pointer none]) underlying225
instance Ey:wb prog 228 true [.int .i64 0,.int .i64 0,.int .i64 0] 3 24:=Lc (z:=.agg #[.int .i64 0,.int .i64 0,.int .i64 0]) underlying228
instance nj:wb prog 231 true [.int .i64 0,.int .i64 0,.int .i64 0] 3 24:=Lc (z:=.agg #[.int .i64 0,.int .i64 0,.int .i64 0]) underlying231
instance G1:wb prog 242 false [.pointer none] 1 8:=Lc (z:=.pointer none) underlying242
instance Cr:wb prog 243 false [.map none] 1 8:=Lc (z:=.map none) underlying243
instance xB:wb prog 244 false [.slice none 0 0] 1 24:=Lc (z:=.slice none 0 0) underlying244
instance dV:wb prog 246 true [.pointer none,.pointer none,.slice none 0 0] 3 40:=Lc (z:=.agg #[.pointer none,.pointer none,.slice none 0 0]) underlying246
instance I1:wb prog 257 false [.nilFunc] 1 8:=Lc (z:=.nilFunc) underlying257
instance eV:wb prog 267 false [.pointer none] 1 8:=Lc (z:=.pointer none) underlying267
instance fV:wb prog 271 false [.map none] 1 8:=Lc (z:=.map none) underlying271
instance ZK:wb prog 272 false [.slice none 0 0] 1 24:=Lc (z:=.slice none 0 0) underlying272
instance Hm:wb prog 274 true [.slice none 0 0,.slice none 0 0] 2 48:=Lc (z:=.agg #[.slice none 0 0,.slice none 0 0]) underlying274
instance gV:wb prog 276 true [.pointer none,.pointer none,.map none,.slice none 0 0,.slice none 0 0,.slice none 0 0,.int .i64 0] 7 104:=Lc (z:=.agg #[.pointer none,.pointer none,.map none,.slice none 0 0,.slice none 0 0,.slice none 0 0,.int .i64 0]) underlying276
instance hV:wb prog 284 true [.slice none 0 0,.int .i64 0,.int .i64 0,.int .i64 0] 4 48:=Lc (z:=.agg #[.slice none 0 0,.int .i64 0,.int .i64 0,.int .i64 0]) underlying284
instance Pt:wb prog 338 true [.map none,.bool false] 2 16:=Lc (z:=.agg #[.map none,.bool false]) underlying338
theorem zL:prog.eqGuardType prog.depth 41=false:=by kernel_rfl
theorem AL:prog.stoodInHeld 41=false:=by kernel_rfl
instance UX:Wb prog 105 0 0:=cc underlying105 rfl rfl rfl tp rfl
instance VX:Wb prog 105 1 1:=cc underlying105 rfl rfl rfl tp rfl
instance WX:Wb prog 105 2 2:=cc underlying105 rfl rfl rfl tp rfl
instance XX:Wb prog 108 1 1:=cc underlying108 rfl rfl rfl Dg rfl
instance YX:Wb prog 108 2 2:=cc underlying108 rfl rfl rfl Dg rfl
instance ZX:Wb prog 110 0 0:=cc underlying110 rfl rfl rfl tp rfl
instance aY:Wb prog 110 1 1:=cc underlying110 rfl rfl rfl MU rfl
instance bY:Wb prog 117 0 0:=cc underlying117 rfl rfl rfl Wt rfl
instance cY:Wb prog 117 1 1:=cc underlying117 rfl rfl rfl hG rfl
instance dY:Wb prog 117 2 2:=cc underlying117 rfl rfl rfl Sm rfl
instance eY:Wb prog 117 3 3:=cc underlying117 rfl rfl rfl Sm rfl
instance fY:Wb prog 117 4 4:=cc underlying117 rfl rfl rfl Sm rfl
instance gY:Wb prog 117 5 5:=cc underlying117 rfl rfl rfl nn rfl
instance hY:Wb prog 117 6 6:=cc underlying117 rfl rfl rfl Cw rfl
instance iY:Wb prog 117 7 7:=cc underlying117 rfl rfl rfl Cw rfl
instance jY:Wb prog 121 0 0:=cc underlying121 rfl rfl rfl Cw rfl
instance kY:Wb prog 121 1 1:=cc underlying121 rfl rfl rfl Ho rfl
instance lY:Wb prog 129 0 0:=cc underlying129 rfl rfl rfl Cy rfl
instance mY:Wb prog 129 2 2:=cc underlying129 rfl rfl rfl Yb rfl
instance nY:Wb prog 135 0 0:=cc underlying135 rfl rfl rfl tq rfl
instance oY:Wb prog 135 1 1:=cc underlying135 rfl rfl rfl tq rfl
instance pY:Wb prog 135 2 2:=cc underlying135 rfl rfl rfl QB rfl
instance qY:Wb prog 138 0 0:=cc underlying138 rfl rfl rfl Yb rfl
instance rY:Wb prog 138 1 1:=cc underlying138 rfl rfl rfl Yb rfl
instance sY:Wb prog 141 0 0:=cc underlying141 rfl rfl rfl Yb rfl
instance tY:Wb prog 141 1 1:=cc underlying141 rfl rfl rfl Yb rfl
instance uY:Wb prog 141 2 2:=cc underlying141 rfl rfl rfl Yt rfl
instance vY:Wb prog 141 5 5:=cc underlying141 rfl rfl rfl vB rfl
instance wY:Wb prog 144 0 0:=cc underlying144 rfl rfl rfl gv rfl
instance xY:Wb prog 150 0 0:=cc underlying150 rfl rfl rfl Dy rfl
instance yY:Wb prog 150 1 1:=cc underlying150 rfl rfl rfl Dw rfl
instance zY:Wb prog 150 2 2:=cc underlying150 rfl rfl rfl Yb rfl
instance AY:Wb prog 162 0 0:=cc underlying162 rfl rfl rfl Ry rfl
instance BY:Wb prog 162 1 1:=cc underlying162 rfl rfl rfl RU rfl
instance CY:Wb prog 162 2 2:=cc underlying162 rfl rfl rfl XK rfl
instance DY:Wb prog 162 3 3:=cc underlying162 rfl rfl rfl wB rfl
instance EY:Wb prog 162 4 4:=cc underlying162 rfl rfl rfl Yb rfl
instance FY:Wb prog 162 5 5:=cc underlying162 rfl rfl rfl Yb rfl
instance GY:Wb prog 162 6 6:=cc underlying162 rfl rfl rfl Yb rfl
instance HY:Wb prog 162 7 7:=cc underlying162 rfl rfl rfl Pj rfl
instance IY:Wb prog 162 8 8:=cc underlying162 rfl rfl rfl SU rfl
instance JY:Wb prog 165 1 1:=cc underlying165 rfl rfl rfl QB rfl
instance KY:Wb prog 175 0 0:=cc underlying175 rfl rfl rfl Yb rfl
instance LY:Wb prog 175 1 1:=cc underlying175 rfl rfl rfl eg rfl
instance MY:Wb prog 175 2 2:=cc underlying175 rfl rfl rfl Dg rfl
instance NY:Wb prog 175 3 3:=cc underlying175 rfl rfl rfl kG rfl
instance OY:Wb prog 177 0 0:=cc underlying177 rfl rfl rfl Yb rfl
instance PY:Wb prog 177 1 1:=cc underlying177 rfl rfl rfl Dg rfl
instance QY:Wb prog 177 2 2:=cc underlying177 rfl rfl rfl Ag rfl
instance RY:Wb prog 177 3 6:=cc underlying177 rfl rfl rfl HG rfl
instance SY:Wb prog 177 4 7:=cc underlying177 rfl rfl rfl HG rfl
instance TY:Wb prog 183 0 0:=cc underlying183 rfl rfl rfl Dg rfl
instance UY:Wb prog 183 1 1:=cc underlying183 rfl rfl rfl eg rfl
instance VY:Wb prog 183 2 2:=cc underlying183 rfl rfl rfl hG rfl
instance WY:Wb prog 188 0 0:=cc underlying188 rfl rfl rfl Yb rfl
instance XY:Wb prog 188 1 1:=cc underlying188 rfl rfl rfl Dg rfl
instance YY:Wb prog 188 2 2:=cc underlying188 rfl rfl rfl eg rfl
instance ZY:Wb prog 188 3 3:=cc underlying188 rfl rfl rfl Yb rfl
instance aZ:Wb prog 205 0 0:=cc underlying205 rfl rfl rfl Yb rfl
instance bZ:Wb prog 209 0 0:=cc underlying209 rfl rfl rfl OU rfl
instance cZ:Wb prog 209 1 1:=cc underlying209 rfl rfl rfl Bj rfl
instance dZ:Wb prog 209 2 7:=cc underlying209 rfl rfl rfl lG rfl
instance AR:Wb prog 211 0 0:=cc underlying211 rfl rfl rfl Dg rfl
instance eZ:Wb prog 211 1 1:=cc underlying211 rfl rfl rfl ec rfl
instance fZ:Wb prog 216 0 0:=cc underlying216 rfl rfl rfl Ry rfl
instance gZ:Wb prog 220 0 0:=cc underlying220 rfl rfl rfl Pj rfl
instance hZ:Wb prog 220 1 1:=cc underlying220 rfl rfl rfl Yb rfl
instance iZ:Wb prog 220 2 2:=cc underlying220 rfl rfl rfl Yb rfl
instance jZ:Wb prog 225 0 0:=cc underlying225 rfl rfl rfl Yb rfl
instance kZ:Wb prog 225 1 1:=cc underlying225 rfl rfl rfl wB rfl
instance lZ:Wb prog 225 2 2:=cc underlying225 rfl rfl rfl aV rfl
instance mZ:Wb prog 225 3 3:=cc underlying225 rfl rfl rfl bV rfl
instance nZ:Wb prog 228 0 0:=cc underlying228 rfl rfl rfl Yb rfl
instance oZ:Wb prog 228 1 1:=cc underlying228 rfl rfl rfl Yb rfl
instance pZ:Wb prog 231 0 0:=cc underlying231 rfl rfl rfl Yb rfl
instance qZ:Wb prog 231 1 1:=cc underlying231 rfl rfl rfl Yb rfl
instance rZ:Wb prog 231 2 2:=cc underlying231 rfl rfl rfl eg rfl
instance sZ:Wb prog 246 0 0:=cc underlying246 rfl rfl rfl jW rfl
instance tZ:Wb prog 246 1 1:=cc underlying246 rfl rfl rfl Wt rfl
instance uZ:Wb prog 246 2 2:=cc underlying246 rfl rfl rfl xB rfl
instance X0:Wb prog 26 0 0:=cc underlying26 rfl rfl rfl gv rfl
instance vZ:Wb prog 274 0 0:=cc underlying274 rfl rfl rfl Yt rfl
instance wZ:Wb prog 274 1 1:=cc underlying274 rfl rfl rfl ZK rfl
instance xZ:Wb prog 276 0 0:=cc underlying276 rfl rfl rfl XU rfl
instance yZ:Wb prog 276 1 1:=cc underlying276 rfl rfl rfl eV rfl
instance zZ:Wb prog 276 2 2:=cc underlying276 rfl rfl rfl fV rfl
instance AZ:Wb prog 276 3 3:=cc underlying276 rfl rfl rfl Yt rfl
instance BZ:Wb prog 276 4 4:=cc underlying276 rfl rfl rfl Hm rfl
instance CZ:Wb prog 276 5 6:=cc underlying276 rfl rfl rfl gv rfl
instance DZ:Wb prog 284 0 0:=cc underlying284 rfl rfl rfl Pj rfl
instance EZ:Wb prog 284 1 1:=cc underlying284 rfl rfl rfl Yb rfl
instance FZ:Wb prog 284 2 2:=cc underlying284 rfl rfl rfl Yb rfl
instance GZ:Wb prog 284 3 3:=cc underlying284 rfl rfl rfl Yb rfl
instance yK:Wb prog 31 0 0:=cc underlying31 rfl rfl rfl Mw rfl
instance zK:Wb prog 31 1 1:=cc underlying31 rfl rfl rfl OB rfl
instance Y0:Wb prog 31 2 2:=cc underlying31 rfl rfl rfl Yb rfl
instance HZ:Wb prog 338 0 0:=cc underlying338 rfl rfl rfl tq rfl
instance IZ:Wb prog 338 1 1:=cc underlying338 rfl rfl rfl Sm rfl
instance kT:Wb prog 36 0 0:=cc underlying36 rfl rfl rfl Yb rfl
instance lT:Wb prog 36 1 1:=cc underlying36 rfl rfl rfl Yb rfl
instance Z0:Wb prog 36 2 2:=cc underlying36 rfl rfl rfl Yb rfl
instance a1:Wb prog 36 3 3:=cc underlying36 rfl rfl rfl Pj rfl
instance b1:Wb prog 41 0 0:=cc underlying41 rfl rfl rfl Yb rfl
instance c1:Wb prog 41 1 1:=cc underlying41 rfl rfl rfl Dg rfl
instance e1:Wb prog 45 0 0:=cc underlying45 rfl rfl rfl Yb rfl
instance VF:Wb prog 45 1 1:=cc underlying45 rfl rfl rfl Dg rfl
instance h1:Wb prog 45 2 2:=cc underlying45 rfl rfl rfl ec rfl
instance j1:Wb prog 45 3 4:=cc underlying45 rfl rfl rfl ec rfl
instance l1:Wb prog 45 4 6:=cc underlying45 rfl rfl rfl Yb rfl
instance n1:Wb prog 45 5 7:=cc underlying45 rfl rfl rfl eW rfl
instance o1:Wb prog 45 6 8:=cc underlying45 rfl rfl rfl HG rfl
instance p1:Wb prog 51 0 0:=cc underlying51 rfl rfl rfl IG rfl
instance q1:Wb prog 51 1 1:=cc underlying51 rfl rfl rfl PB rfl
instance mT:Wb prog 66 0 0:=cc underlying66 rfl rfl rfl QB rfl
instance nT:Wb prog 66 1 1:=cc underlying66 rfl rfl rfl wL rfl
instance AK:Wb prog 66 2 2:=cc underlying66 rfl rfl rfl tq rfl
instance r1:Wb prog 66 3 3:=cc underlying66 rfl rfl rfl Yb rfl
instance u1:Wb prog 72 0 0:=cc underlying72 rfl rfl rfl Yb rfl
instance oT:Wb prog 72 1 1:=cc underlying72 rfl rfl rfl Pj rfl
instance pT:Wb prog 81 0 0:=cc underlying81 rfl rfl rfl vL rfl
instance qT:Wb prog 81 1 1:=cc underlying81 rfl rfl rfl Ho rfl
instance w1:Wb prog 81 2 2:=cc underlying81 rfl rfl rfl yL rfl
instance y1:Wb prog 81 3 3:=cc underlying81 rfl rfl rfl nn rfl
instance XF:Wb prog 81 4 4:=cc underlying81 rfl rfl rfl sj rfl
instance z1:Wb prog 92 0 0:=cc underlying92 rfl rfl rfl Yb rfl
instance A1:Wb prog 92 1 1:=cc underlying92 rfl rfl rfl Yb rfl
theorem iV:Re prog 108 #[(0,1),(1,1),(2,1)]:=Yg underlying108 (λ_=>by kernel_rfl)
theorem aL:Re prog 110 #[(0,1),(1,1)]:=Yg underlying110 (λ_=>by kernel_rfl)
theorem bL:Re prog 117 #[(0,1),(1,1),(2,1),(3,1),(4,1),(5,1),(6,1),(7,1)]:=Yg underlying117 (λ_=>by kernel_rfl)
theorem mG:Re prog 121 #[(0,1),(1,1)]:=Yg underlying121 (λ_=>by kernel_rfl)
theorem jV:Re prog 129 #[(0,1),(1,1),(2,1)]:=Yg underlying129 (λ_=>by kernel_rfl)
theorem kV:Re prog 135 #[(0,1),(1,1),(2,1)]:=Yg underlying135 (λ_=>by kernel_rfl)
theorem lV:Re prog 138 #[(0,1),(1,1)]:=Yg underlying138 (λ_=>by kernel_rfl)
theorem mV:Re prog 141 #[(0,1),(1,1),(2,1),(3,1),(4,1),(5,1)]:=Yg underlying141 (λ_=>by kernel_rfl)
theorem nG:Re prog 144 #[(0,1),(1,1),(2,1)]:=Yg underlying144 (λ_=>by kernel_rfl)
theorem nV:Re prog 150 #[(0,1),(1,1),(2,1)]:=Yg underlying150 (λ_=>by kernel_rfl)
theorem oV:Re prog 162 #[(0,1),(1,1),(2,1),(3,1),(4,1),(5,1),(6,1),(7,1),(8,1)]:=Yg underlying162 (λ_=>by kernel_rfl)
theorem pV:Re prog 165 #[(0,1),(1,1)]:=Yg underlying165 (λ_=>by kernel_rfl)
theorem oG:Re prog 175 #[(0,1),(1,1),(2,1),(3,1)]:=Yg underlying175 (λ_=>by kernel_rfl)
theorem pG:Re prog 177 #[(0,1),(1,1),(2,4),(6,1),(7,1)]:=Yg underlying177 (λ_=>by kernel_rfl)
theorem cL:Re prog 183 #[(0,1),(1,1),(2,1)]:=Yg underlying183 (λ_=>by kernel_rfl)
theorem qV:Re prog 188 #[(0,1),(1,1),(2,1),(3,1)]:=Yg underlying188 (λ_=>by kernel_rfl)
theorem rV:Re prog 205 #[(0,1)]:=Yg underlying205 (λ_=>by kernel_rfl)
theorem sV:Re prog 209 #[(0,1),(1,6),(7,1)]:=Yg underlying209 (λ_=>by kernel_rfl)
theorem tV:Re prog 216 #[(0,1)]:=Yg underlying216 (λ_=>by kernel_rfl)
theorem uV:Re prog 220 #[(0,1),(1,1),(2,1)]:=Yg underlying220 (λ_=>by kernel_rfl)
theorem vV:Re prog 225 #[(0,1),(1,1),(2,1),(3,1)]:=Yg underlying225 (λ_=>by kernel_rfl)
theorem wV:Re prog 228 #[(0,1),(1,1),(2,1)]:=Yg underlying228 (λ_=>by kernel_rfl)
theorem xV:Re prog 231 #[(0,1),(1,1),(2,1)]:=Yg underlying231 (λ_=>by kernel_rfl)
theorem yV:Re prog 246 #[(0,1),(1,1),(2,1)]:=Yg underlying246 (λ_=>by kernel_rfl)
theorem pn:Re prog 26 #[(0,1),(1,1)]:=Yg underlying26 (λ_=>by kernel_rfl)
theorem dL:Re prog 274 #[(0,1),(1,1)]:=Yg underlying274 (λ_=>by kernel_rfl)
theorem zV:Re prog 276 #[(0,1),(1,1),(2,1),(3,1),(4,2),(6,1)]:=Yg underlying276 (λ_=>by kernel_rfl)
theorem AV:Re prog 284 #[(0,1),(1,1),(2,1),(3,1)]:=Yg underlying284 (λ_=>by kernel_rfl)
theorem BL:Re prog 31 #[(0,1),(1,1),(2,1)]:=Yg underlying31 (λ_=>by kernel_rfl)
theorem Fy:Re prog 338 #[(0,1),(1,1)]:=Yg underlying338 (λ_=>by kernel_rfl)
theorem CL:Re prog 36 #[(0,1),(1,1),(2,1),(3,1)]:=Yg underlying36 (λ_=>by kernel_rfl)
theorem Sy:Re prog 41 #[(0,1),(1,1)]:=Yg underlying41 (λ_=>by kernel_rfl)
theorem DL:Re prog 45 #[(0,1),(1,1),(2,2),(4,2),(6,1),(7,1),(8,1)]:=Yg underlying45 (λ_=>by kernel_rfl)
theorem kW:Re prog 60 #[]:=Yg underlying60 (λ_=>by kernel_rfl)
theorem lW:Re prog 66 #[(0,1),(1,1),(2,1),(3,1)]:=Yg underlying66 (λ_=>by kernel_rfl)
theorem mW:Re prog 72 #[(0,1),(1,1)]:=Yg underlying72 (λ_=>by kernel_rfl)
theorem nW:Re prog 81 #[(0,1),(1,1),(2,1),(3,1),(4,4)]:=Yg underlying81 (λ_=>by kernel_rfl)
theorem oW:Re prog 92 #[(0,1),(1,1)]:=Yg underlying92 (λ_=>by kernel_rfl)
theorem pW:Re prog 94 #[(0,1),(1,1)]:=Yg underlying94 (λ_=>by kernel_rfl)
theorem eL:∀ w,(zeroValue 105).run prog w=.ok (.agg #[.slice none 0 0,.slice none 0 0,.slice none 0 0]) w:=Ht (by kernel_rfl)
theorem qG:∀ w,(zeroValue 274).run prog w=.ok (.agg #[.slice none 0 0,.slice none 0 0]) w:=Ht (by kernel_rfl)
theorem Xw:∀ w,(zeroValue 3).run prog w=.ok (.int .i64 0) w:=Ht (by kernel_rfl)
theorem qW:∀ w,(zeroValue 41).run prog w=.ok (.agg #[.int .i64 0,S []]) w:=Ht (by kernel_rfl)
theorem hv:∀ w,(zeroValue 69).run prog w=.ok (.pointer none) w:=Ht (by kernel_rfl)
theorem SB:∀ w,(zeroValue 70).run prog w=.ok (.pointer none) w:=Ht (by kernel_rfl)
end
instance:Eh Tryz.prog 2 (.int Go.IntKind.i64):=⟨Tryz.underlying2⟩
instance:Eh Tryz.prog 9 .string:=⟨Tryz.underlying9⟩
instance:Eh Tryz.prog 22 (.slice 45):=⟨Tryz.underlying22⟩
instance:Eh Tryz.prog 28 (.slice 36):=⟨Tryz.underlying28⟩
instance:Eh Tryz.prog 29 (.slice 34):=⟨Tryz.underlying29⟩
instance:Eh Tryz.prog 34 (.slice 2):=⟨Tryz.underlying34⟩
instance:Eh Tryz.prog 42 (.slice 211):=⟨Tryz.underlying42⟩
instance:Eh Tryz.prog 43 (.slice 177):=⟨Tryz.underlying43⟩
instance:Eh Tryz.prog 48 (.slice 138):=⟨Tryz.underlying48⟩
instance:Eh Tryz.prog 49 (.slice 141):=⟨Tryz.underlying49⟩
instance:Eh Tryz.prog 78 (.slice 79):=⟨Tryz.underlying78⟩
instance:Eh Tryz.prog 86 (.slice 92):=⟨Tryz.underlying86⟩
instance:Eh Tryz.prog 96 (.slice 3):=⟨Tryz.underlying96⟩
instance:Eh Tryz.prog 103 (.slice 9):=⟨Tryz.underlying103⟩
instance:Eh Tryz.prog 111 (.slice 110):=⟨Tryz.underlying111⟩
instance:Eh Tryz.prog 122 (.slice 188):=⟨Tryz.underlying122⟩
instance:Eh Tryz.prog 139 (.slice 231):=⟨Tryz.underlying139⟩
instance:Eh Tryz.prog 146 (.slice 154):=⟨Tryz.underlying146⟩
instance:Eh Tryz.prog 168 (.slice 167):=⟨Tryz.underlying168⟩
instance:Eh Tryz.prog 169 (.slice 69):=⟨Tryz.underlying169⟩
instance:Eh Tryz.prog 173 (.slice 175):=⟨Tryz.underlying173⟩
instance:Eh Tryz.prog 207 (.slice 64):=⟨Tryz.underlying207⟩
instance:Eh Tryz.prog 222 (.slice 228):=⟨Tryz.underlying222⟩
instance:Eh Tryz.prog 244 (.slice 243):=⟨Tryz.underlying244⟩
instance:Eh Tryz.prog 335 (.slice 338):=⟨Tryz.underlying335⟩
end Go.Proofs.YtafjdiifkckmbaaGreatDoor
namespace Go.Proofs
open Go.Shelf
def Tryz.AM:Go.Shelf.Ren:=⟨λ| 174=>64 | 247=>108 | 245=>109 | 287=>145 | 279=>146 | 280=>147 | 281=>148 | 282=>149 | 321=>179 | 322=>180 | 316=>181 | 171=>183 | 205=>182 | 243=>195 | 246=>200 | 283=>206 | 284=>207 | 285=>208 | 286=>209 | 129=>215 | 317=>214 | 318=>216 | 319=>217 | 320=>218 | 337=>219 | 338=>220 | n=>n,λ| 9=>9 | 3=>3 | 2=>2 | 75=>192 | 85=>193 | 4=>4 | 167=>289 | 5=>5 | 53=>290 | 175=>291 | 46=>293 | 168=>294 | 37=>316 | 0=>0 | 210=>318 | 21=>21 | 127=>331 | 145=>334 | 143=>332 | 171=>342 | 173=>345 | 212=>353 | 51=>347 | 20=>20 | 213=>354 | 232=>357 | 233=>358 | 80=>197 | n=>n,λ| 15=>0 | 16=>1 | 17=>3 | 18=>4 | 19=>5 | n=>n⟩
theorem Tryz.EP:Go.Proofs.LaysC.n174 Tryz.prog Tryz.AM:={
 mixed:=by kernel_rfl
 f129:=Tryz.func215.trans (congrArg some (by kernel_rfl))
 f171:=Tryz.func183.trans (congrArg some (by kernel_rfl))
 f174:=Tryz.func64.trans (congrArg some (by kernel_rfl))
 f205:=Tryz.func182.trans (congrArg some (by kernel_rfl))
 f243:=Tryz.func195.trans (congrArg some (by kernel_rfl))
 f245:=Tryz.func109.trans (congrArg some (by kernel_rfl))
 f246:=Tryz.func200.trans (congrArg some (by kernel_rfl))
 f247:=Tryz.func108.trans (congrArg some (by kernel_rfl))
 f279:=Tryz.func146.trans (congrArg some (by kernel_rfl))
 f280:=Tryz.func147.trans (congrArg some (by kernel_rfl))
 f281:=Tryz.func148.trans (congrArg some (by kernel_rfl))
 f282:=Tryz.func149.trans (congrArg some (by kernel_rfl))
 f283:=Tryz.func206.trans (congrArg some (by kernel_rfl))
 f284:=Tryz.func207.trans (congrArg some (by kernel_rfl))
 f285:=Tryz.func208.trans (congrArg some (by kernel_rfl))
 f286:=Tryz.func209.trans (congrArg some (by kernel_rfl))
 f287:=Tryz.func145.trans (congrArg some (by kernel_rfl))
 f316:=Tryz.func181.trans (congrArg some (by kernel_rfl))
 f317:=Tryz.func214.trans (congrArg some (by kernel_rfl))
 f318:=Tryz.func216.trans (congrArg some (by kernel_rfl))
 f319:=Tryz.func217.trans (congrArg some (by kernel_rfl))
 f320:=Tryz.func218.trans (congrArg some (by kernel_rfl))
 f321:=Tryz.func179.trans (congrArg some (by kernel_rfl))
 f322:=Tryz.func180.trans (congrArg some (by kernel_rfl))
 f337:=Tryz.func219.trans (congrArg some (by kernel_rfl))
 f338:=Tryz.func220.trans (congrArg some (by kernel_rfl))
 t0:=Tryz.underlying0
 a0:=Tryz.isAgg0
 z0:=Tryz.sizeOf0
 v0:=Tryz.zeroValue0
 t2:=Tryz.underlying2
 a2:=Tryz.isAgg2
 z2:=Tryz.sizeOf2
 v2:=Tryz.zeroValue2
 t3:=Tryz.underlying3
 a3:=Tryz.isAgg3
 z3:=Tryz.sizeOf3
 v3:=Tryz.zeroValue3
 t4:=Tryz.underlying4
 a4:=Tryz.isAgg4
 z4:=Tryz.sizeOf4
 v4:=Tryz.zeroValue4
 t5:=Tryz.underlying5
 a5:=Tryz.isAgg5
 z5:=Tryz.sizeOf5
 v5:=Tryz.zeroValue5
 t9:=Tryz.underlying9
 a9:=Tryz.isAgg9
 z9:=Tryz.sizeOf9
 v9:=Tryz.zeroValue9
 t20:=Tryz.underlying20
 a20:=Tryz.isAgg20
 z20:=Tryz.sizeOf20
 v20:=Tryz.zeroValue20
 t21:=Tryz.underlying21
 a21:=Tryz.isAgg21
 z21:=Tryz.sizeOf21
 v21:=Tryz.zeroValue21
 t37:=Tryz.underlying316
 a37:=Tryz.isAgg316
 z37:=Tryz.sizeOf316
 v37:=Tryz.zeroValue316
 t46:=Tryz.underlying293
 a46:=Tryz.isAgg293
 z46:=Tryz.sizeOf293
 v46:=Tryz.zeroValue293
 t51:=Tryz.underlying347
 a51:=Tryz.isAgg347
 z51:=Tryz.sizeOf347
 v51:=Tryz.zeroValue347
 t53:=Tryz.underlying290
 a53:=Tryz.isAgg290
 z53:=Tryz.sizeOf290
 v53:=Tryz.zeroValue290
 t75:=Tryz.underlying192
 a75:=Tryz.isAgg192
 z75:=Tryz.sizeOf192
 v75:=Tryz.zeroValue192
 t85:=Tryz.underlying193
 a85:=Tryz.isAgg193
 z85:=Tryz.sizeOf193
 v85:=Tryz.zeroValue193
 t127:=Tryz.underlying331
 a127:=Tryz.isAgg331
 z127:=Tryz.sizeOf331
 v127:=Tryz.zeroValue331
 t143:=Tryz.underlying332
 a143:=Tryz.isAgg332
 z143:=Tryz.sizeOf332
 v143:=Tryz.zeroValue332
 t145:=Tryz.underlying334
 a145:=Tryz.isAgg334
 z145:=Tryz.sizeOf334
 v145:=Tryz.zeroValue334
 t167:=Tryz.underlying289
 a167:=Tryz.isAgg289
 z167:=Tryz.sizeOf289
 v167:=Tryz.zeroValue289
 t168:=Tryz.underlying294
 a168:=Tryz.isAgg294
 z168:=Tryz.sizeOf294
 v168:=Tryz.zeroValue294
 t171:=Tryz.underlying342
 a171:=Tryz.isAgg342
 z171:=Tryz.sizeOf342
 v171:=Tryz.zeroValue342
 t173:=Tryz.underlying345
 a173:=Tryz.isAgg345
 z173:=Tryz.sizeOf345
 v173:=Tryz.zeroValue345
 t175:=Tryz.underlying291
 a175:=Tryz.isAgg291
 z175:=Tryz.sizeOf291
 v175:=Tryz.zeroValue291
 t210:=Tryz.underlying318
 a210:=Tryz.isAgg318
 z210:=Tryz.sizeOf318
 v210:=Tryz.zeroValue318
 t212:=Tryz.underlying353
 a212:=Tryz.isAgg353
 z212:=Tryz.sizeOf353
 v212:=Tryz.zeroValue353
 t213:=Tryz.underlying354
 a213:=Tryz.isAgg354
 z213:=Tryz.sizeOf354
 t232:=Tryz.underlying357
 a232:=Tryz.isAgg357
 z232:=Tryz.sizeOf357
 v232:=Tryz.zeroValue357
 t233:=Tryz.underlying358
 a233:=Tryz.isAgg358
 z233:=Tryz.sizeOf358
 v233:=Tryz.zeroValue358
 g15:=by kernel_rfl
 g16:=by kernel_rfl
 g17:=by kernel_rfl
 g18:=by kernel_rfl
 g19:=by kernel_rfl
 t80:=Tryz.underlying197
 a80:=Tryz.isAgg197
 z80:=Tryz.sizeOf197
 v80:=Tryz.zeroValue197
 i0:=by kernel_rfl
 i2:=by kernel_rfl
 i3:=by kernel_rfl
 i4:=by kernel_rfl
 i5:=by kernel_rfl
 i9:=by kernel_rfl
 i20:=by kernel_rfl
 i21:=by kernel_rfl
 i37:=by kernel_rfl
 i46:=by kernel_rfl
 i51:=by kernel_rfl
 i53:=by kernel_rfl
 i75:=by kernel_rfl
 i80:=by kernel_rfl
 i85:=by kernel_rfl
 i127:=by kernel_rfl
 i143:=by kernel_rfl
 i145:=by kernel_rfl
 i167:=by kernel_rfl
 i168:=by kernel_rfl
 i171:=by kernel_rfl
 i173:=by kernel_rfl
 i175:=by kernel_rfl
 i210:=by kernel_rfl
 i212:=by kernel_rfl
 i232:=by kernel_rfl
 i233:=by kernel_rfl
 m15:=by kernel_rfl
 m16:=by kernel_rfl
 m17:=by kernel_rfl
 m18:=by kernel_rfl
 m19:=by kernel_rfl
 c0:=by kernel_rfl
 c2:=by kernel_rfl
 c3:=by kernel_rfl
 c4:=by kernel_rfl
 c5:=by kernel_rfl
 c9:=by kernel_rfl
 c20:=by kernel_rfl
 c21:=by kernel_rfl
 c37:=by kernel_rfl
 c46:=by kernel_rfl
 c51:=by kernel_rfl
 c53:=by kernel_rfl
 c75:=by kernel_rfl
 c80:=by kernel_rfl
 c85:=by kernel_rfl
 c127:=by kernel_rfl
 c143:=by kernel_rfl
 c145:=by kernel_rfl
 c167:=by kernel_rfl
 c168:=by kernel_rfl
 c171:=by kernel_rfl
 c173:=by kernel_rfl
 c175:=by kernel_rfl
 c210:=by kernel_rfl
 c212:=by kernel_rfl
 c213:=by kernel_rfl
 c232:=by kernel_rfl
 c233:=by kernel_rfl }
open Go.RowKit in
theorem Tryz.strconv_ParseInt_10_at64_ok (s:ByteArray) (a:s.size<=9223372036854775806) (v:Int) (h:Lib.parseIntB 64 s.data.toList=.ok v) (w:World) :
  Calls Tryz.prog 64 #[.string s,.int .i64 10,.int .i64 64] w λe w'=>e=.returned (.tuple #[.int .i64 v,.nilIface])/\(w'=w\/∃ t,w'=Lib.bytesWorld w 5 t):=Any.strconv_ParseInt_10_at64_ok Tryz.EP s a v h w
def Tryz.UM:Go.Shelf.Ren:=⟨λ| 144=>151 | 143=>184 | 219=>196 | 217=>201 | 225=>202 | 224=>203 | 267=>204 | 266=>210 | 314=>211 | n=>n,λ| 9=>9 | 4=>4 | 3=>3 | 5=>5 | 46=>293 | 146=>348 | 51=>347 | n=>n,λ| 1=>2 | n=>n⟩
theorem Tryz.BR:Go.Proofs.Lays.n144 Tryz.prog Tryz.UM:={
 mixed:=by kernel_rfl
 f143:=Tryz.func184.trans (congrArg some (by kernel_rfl))
 f144:=Tryz.func151.trans (congrArg some (by kernel_rfl))
 f217:=Tryz.func201.trans (congrArg some (by kernel_rfl))
 f219:=Tryz.func196.trans (congrArg some (by kernel_rfl))
 f224:=Tryz.func203.trans (congrArg some (by kernel_rfl))
 f225:=Tryz.func202.trans (congrArg some (by kernel_rfl))
 f266:=Tryz.func210.trans (congrArg some (by kernel_rfl))
 f267:=Tryz.func204.trans (congrArg some (by kernel_rfl))
 f314:=Tryz.func211.trans (congrArg some (by kernel_rfl))
 t3:=Tryz.underlying3
 a3:=Tryz.isAgg3
 z3:=Tryz.sizeOf3
 v3:=Tryz.zeroValue3
 t4:=Tryz.underlying4
 a4:=Tryz.isAgg4
 z4:=Tryz.sizeOf4
 v4:=Tryz.zeroValue4
 t5:=Tryz.underlying5
 a5:=Tryz.isAgg5
 z5:=Tryz.sizeOf5
 v5:=Tryz.zeroValue5
 t9:=Tryz.underlying9
 a9:=Tryz.isAgg9
 z9:=Tryz.sizeOf9
 v9:=Tryz.zeroValue9
 t46:=Tryz.underlying293
 a46:=Tryz.isAgg293
 z46:=Tryz.sizeOf293
 v46:=Tryz.zeroValue293
 t51:=Tryz.underlying347
 a51:=Tryz.isAgg347
 z51:=Tryz.sizeOf347
 v51:=Tryz.zeroValue347
 t146:=Tryz.underlying348
 a146:=Tryz.isAgg348
 z146:=Tryz.sizeOf348
 v146:=Tryz.zeroValue348
 g1:=by kernel_rfl }
open Go.RowKit Go.Lib in
theorem Tryz.strings_Contains (s sub:ByteArray) (m:Int) (w:World) (a:s.size<4294967281) (b:w.cell? ⟨2,0,none⟩=some (.int .i64 m)) :
  Calls Tryz.prog 151 #[.string s,.string sub] w λe w'=>e=.returned (.bool (Lib.contains s.data.toList sub.data.toList))/\w'=w:=Any.strings_Contains Tryz.BR s sub m w a b
def Tryz.VM:Go.Shelf.Ren:=⟨λ| 110=>28 | 109=>50 | n=>n,λ| 31=>103 | 9=>9 | 4=>4 | 3=>3 | 0=>0 | n=>n,λ| n=>n⟩
theorem Tryz.JJ:Go.Proofs.Lays.n110 Tryz.prog Tryz.VM:={
 mixed:=by kernel_rfl
 f109:=Tryz.func50.trans (congrArg some (by kernel_rfl))
 f110:=Tryz.func28.trans (congrArg some (by kernel_rfl))
 t0:=Tryz.underlying0
 a0:=Tryz.isAgg0
 z0:=Tryz.sizeOf0
 v0:=Tryz.zeroValue0
 t3:=Tryz.underlying3
 a3:=Tryz.isAgg3
 z3:=Tryz.sizeOf3
 v3:=Tryz.zeroValue3
 t4:=Tryz.underlying4
 a4:=Tryz.isAgg4
 z4:=Tryz.sizeOf4
 v4:=Tryz.zeroValue4
 t9:=Tryz.underlying9
 a9:=Tryz.isAgg9
 z9:=Tryz.sizeOf9
 v9:=Tryz.zeroValue9
 t31:=Tryz.underlying103
 a31:=Tryz.isAgg103
 z31:=Tryz.sizeOf103
 v31:=Tryz.zeroValue103 }
open Go.Lib in
theorem Tryz.slices_Contains_string (b off n c:Nat) (a:List ByteArray) (x:ByteArray) (w:World) (d:n<=a.length) (f:n<=9223372036854775807) (g:∀ j,j<a.length->w.cell? ⟨b,off+j,none⟩=some (.string (a.getD j ByteArray.empty))) :
  Calls Tryz.prog 28 #[.slice (some ⟨b,off,none⟩) n c,.string x] w λe w'=>e=.returned (.bool (Lib.containsS (a.take n) x))/\w'=w:=Any.slices_Contains_string Tryz.JJ b off n c a x w d f g
open Go.Lib in
theorem Tryz.slices_Contains_string_empty (a:Option Addr) (c:Nat) (x:ByteArray) (w:World) :
  Calls Tryz.prog 28 #[.slice a 0 c,.string x] w λe w'=>e=.returned (.bool false)/\w'=w:=Any.slices_Contains_string_empty Tryz.JJ a c x w
def Tryz.uM:Go.Shelf.Ren:=⟨λ| 15=>164 | n=>n,λ| 22=>96 | 3=>3 | 4=>4 | n=>n,λ| n=>n⟩
theorem Tryz.SD:Go.Proofs.Lays2.n15 Tryz.prog Tryz.uM:={
 mixed:=by kernel_rfl
 f15:=Tryz.func164.trans (congrArg some (by kernel_rfl))
 t3:=Tryz.underlying3
 a3:=Tryz.isAgg3
 z3:=Tryz.sizeOf3
 v3:=Tryz.zeroValue3
 t4:=Tryz.underlying4
 a4:=Tryz.isAgg4
 z4:=Tryz.sizeOf4
 v4:=Tryz.zeroValue4
 t22:=Tryz.underlying96
 a22:=Tryz.isAgg96
 z22:=Tryz.sizeOf96
 v22:=Tryz.zeroValue96
 i3:=by kernel_rfl }
open Go.RowKit Go.Lib in
theorem Tryz.slices_Clone_int (b off n c:Nat) (a:List Int) (w:World) (f:n<=a.length) (g:n*8<=140737488355328) (h:∀ j,j<a.length->w.cell? ⟨b,off+j,none⟩=some (.int .i64 (a.getD j 0))) :
  Calls Tryz.prog 164 #[.slice (some ⟨b,off,none⟩) n c] w λe w'=>∃ d,e=.returned d/\w'.ownsRow w.heap.size 3 1 d n ((a.take n).map (Value.int .i64))/\d≠.slice none 0 0/\Below w.heap.size w w':=Any.slices_Clone_int Tryz.SD b off n c a w f g h
open Go.RowKit Go.Lib in
theorem Tryz.slices_Clone_int_nil (n c:Nat) (w:World) :
  Calls Tryz.prog 164 #[.slice none n c] w λe w'=>e=.returned (.slice none 0 0)/\w'=w:=Any.slices_Clone_int_nil Tryz.SD n c w
open Go.RowKit Go.Lib in
theorem Tryz.slices_Clone_int_zero (a:Addr) (c:Nat) (w:World) :
  Calls Tryz.prog 164 #[.slice (some a) 0 c] w λe w'=>∃ b,e=.returned b/\w'.ownsRow w.heap.size 3 1 b 0 []/\b≠.slice none 0 0/\Below w.heap.size w w':=Any.slices_Clone_int_zero Tryz.SD a c w
def Tryz.nM:Go.Shelf.Ren:=⟨λ| 41=>165 | n=>n,λ| 22=>272 | 23=>4 | 4=>4 | n=>n,λ| n=>n⟩
theorem Tryz.qH:Go.Proofs.SlLaysE0.n41 Tryz.prog Tryz.nM:={
 mixed:=by kernel_rfl
 f41:=⟨Tryz.f165.name,by decide,Tryz.func165.trans (congrArg some (by kernel_rfl))⟩
 t4:=Tryz.underlying4
 a4:=Tryz.isAgg4
 z4:=Tryz.sizeOf4
 v4:=Tryz.zeroValue4
 t22:=Tryz.underlying272
 a22:=Tryz.isAgg272
 z22:=Tryz.sizeOf272
 v22:=Tryz.zeroValue272 }
open Go.RowKit Go.Lib in
theorem Tryz.oM (a:TypeInfo) (z:Value) (size bytes:Nat) (f:Tryz.prog.info? 4=some a) (g:a.zero=some z) (h:a.size=size) (i:a.bytes=bytes) (k:z.cells.size=size) (l:0<size) (m:∀ w,(Go.sizeOf 4).run Tryz.prog w=.ok size w) (b off n c:Nat) (news:List Value) (w:World) (ma:news.length=n*size) (o:n<=maxLen) (p:n*bytes<=140737488355328) (q:∀ j u,news[j]?=some u->w.cell? ⟨b,off+j,none⟩=some u) (r:∀ u ∈ news,u.oneCell'=true) :
  Calls Tryz.prog 165 #[.slice (some ⟨b,off,none⟩) n c] w λe w'=>∃ d,e=.returned d/\w'.ownsRow w.heap.size 4 size d n news/\d≠.slice none 0 0/\Below w.heap.size w w':=AnyE.slices_Clone Tryz.qH a z size bytes f g h i k l m b off n c news w ma o p q r
open Go.RowKit Go.Lib in
theorem Tryz.mM (n c:Nat) (w:World) :
  Calls Tryz.prog 165 #[.slice none n c] w λe w'=>e=.returned (.slice none 0 0)/\w'=w:=AnyE.slices_Clone_nil Tryz.qH n c w
end Go.Proofs
namespace Go.Proofs.YtafjdiifkckmbaaGreatDoor
open Go.Mc Go.Kf Go.Y Tryz
def Jb:M:=λw=>∃ m,w.cell? ⟨2,0,none⟩=some (.int .i64 m)
theorem rT {I:M}{da w:World}{rsF:List Ha}{l:List UInt8}{r:Int}(g:EG l=some r) (b:fa I da w rsF) :
  kb prog 64 [S l,.int .i64 10,.int .i64 64] w (λv w'=>v=.tuple ⟨[.int .i64 r,.nilIface]⟩/\fa I da w' rsF):=by
 unfold EG at g;split at g
 ·rename_i ma;cases a:Lib.parseIntB 64 l with
  | ok v =>
   rw [a] at g;obtain rfl:=Option.some.inj g;refine ⟨(strconv_ParseInt_10_at64_ok ⟨⟨l⟩⟩ ma v a w).mono λe w' c=>?_⟩;obtain ⟨rfl,hw⟩:=c;refine ⟨rfl,?_⟩;rcases hw with rfl | ⟨t,rfl⟩
   ·exact b
   ·have h:=Lib.bytesWorld_below w 5 t;exact b.grow ⟨h.os,h.tape,h.output,h.size,λk d _=>h.block k d⟩
  | _=>rw [a] at g; cases g
 ·cases g
theorem CR {I:M}{da w:World}{rsF:List Ha}{l sub:List UInt8}{b:Bool}(d:ha Jb I) (g:rB l sub=some b) (c:fa I da w rsF) :
  kb prog 151 [S l,S sub] w (λv w'=>v=.bool b/\fa I da w' rsF):=by
 unfold rB at g;split at g
 ·rename_i ma;obtain rfl:=Option.some.inj g;obtain ⟨m,hm⟩:=d w c.a;refine ⟨(strings_Contains ⟨⟨l⟩⟩ ⟨⟨sub⟩⟩ m w ma hm).mono λe w' f=>?_⟩;obtain ⟨rfl,rfl⟩:=f;exact ⟨rfl,c⟩
 ·cases g
open Go.RowKit
section
variable {μ I:M}{da w:World}{rsF rs:List Ha}
def sy (w:World) (v:Value) (vs:List Value):Prop:=(vs=[]/\∃ a c,v=.slice a 0 c)\/∃ b o c,v=.slice (some ⟨b,o,none⟩) vs.length c/\vs.length<=9223372036854775807/\∀ j y,vs[j]?=some y->w.cell? ⟨b,o+j,none⟩=some y
theorem cJ {α:Type}[Ma α]{f:α->Value}(a:∀ (μ:M) (l:List Value) (x:α),Ma.cs μ l x->l=[f x]):∀ {l:List α}{cells:List Value},qa μ cells l->cells=l.map f
 | [],cells,h=>by rw [qa] at h; simp [h]
 | x::l,cells,h=>by
  rw [qa] at h;obtain ⟨cs,t,rfl,b,c⟩:=h;rw [a _ _ _ b,cJ a c];rfl
theorem sA {α:Type}[Ma α]{f:α->Value}(c:∀ (μ:M) (l:List Value) (x:α),Ma.cs μ l x->l=[f x]){v:Value}{T:TypeId}{l:List α}{cells:List Value}(h:Row w v T 1 l.length cells) (d:qa μ cells l):sy w v (l.map f):=by
 have e:=cJ c d;subst e;rcases h.2 with ⟨rfl,b⟩ | ⟨g,o,cap,cur,rfl,i,k,b,n,m⟩
 ·exact .inl ⟨by rw [List.length_eq_zero_iff.1 b];rfl,none,0,rfl⟩
 ·refine .inr ⟨g,o,cap,by simp,by simp;exact Nat.le_trans k (Nat.le_trans b (by decide)),λj y a=>?_⟩;rw [cell_of_row w g (o+j) cur T (0,0) i];rw [<- m,List.getElem?_take] at a;split at a
  ·rw [List.getElem?_drop] at a;simpa using a
  ·cases a
theorem HE {α:Type}[Ma α]{f:α->Value}(g:∀ (μ:M) (l:List Value) (x:α),Ma.cs μ l x->l=[f x]) (i:Ma.sz α=1){a:Option Addr}{c:Nat}{l:List α}(h:ya μ a c l) (k:μ w):sy w (.slice a l.length c) (l.map f):=by
 rcases h.el with rfl | ⟨b,o,rfl,q,m⟩
 ·exact .inl ⟨rfl,a,c,rfl⟩
 ·refine .inr ⟨b,o,c,by simp,by simp;exact ya.len h,λj y d=>?_⟩;simp only [List.getElem?_map,Option.map_eq_some_iff] at d;obtain ⟨x,n,rfl⟩:=d;obtain ⟨e,p⟩:=m j x n;rw [g _ _ _ p,i] at e;have:=e w k 0 _ rfl;simpa using this
theorem KG (μ:M) (l:List Value) (x:List UInt8) (h:Ma.cs μ l x):l=[S x]:=h
theorem EL (μ:M) (l:List Value) (x:Int) (h:Ma.cs μ l x):l=[.int .i64 x]:=h
theorem WC {v:Value}{l:List (List UInt8)}{x:List UInt8}(h:sy w v (l.map S)):kb prog 28 [v,S x] w (λv w'=>v=.bool (l.contains x)/\w'=w):=by
 rcases h with ⟨i,a,c,rfl⟩ | ⟨b,o,c,rfl,ma,k⟩
 ·obtain rfl:l=[]:=List.map_eq_nil_iff.1 i;exact ⟨(slices_Contains_string_empty a c ⟨⟨x⟩⟩ w).mono λe w' d=>by
   obtain ⟨rfl,rfl⟩:=d;exact ⟨rfl,rfl⟩⟩
 ·refine ⟨(slices_Contains_string b o (l.map S).length c (l.map λy=>⟨⟨y⟩⟩) ⟨⟨x⟩⟩ w (by simp) ma ?_).mono λe w' d=>?_⟩
  ·intro j m;have g:j<l.length:=by simpa using m
   rw [k j (S l[j]) (by simp [g])];simp [List.getElem?_eq_getElem g,S]
  ·obtain ⟨rfl,rfl⟩:=d;refine ⟨?_,rfl⟩;congr 1;rw [List.take_of_length_le (by simp),Bool.eq_iff_iff,Lib.containsS_iff,List.contains_iff_mem];constructor
   ·intro f;obtain ⟨y,p,e⟩:=List.mem_map.1 f;have n:y=x:=congrArg (λb:ByteArray=>b.data.toList) e;rwa [<- n]
   ·exact λf=>List.mem_map.2 ⟨x,f,rfl⟩
theorem BI {v:Value}{l:List Int}(ma:l.length<=65536) (h:sy w v (l.map (Value.int .i64))) (m:fa I da w rs) :
  kb prog 164 [v] w (λn w'=>fa I da w' (.row n 3 1 l.length (l.map (Value.int .i64))::rs)):=by
 rcases h with ⟨r,a,c,rfl⟩ | ⟨b,o,c,rfl,t,s⟩
 ·obtain rfl:l=[]:=List.map_eq_nil_iff.1 r;cases a with
  | none=>exact ⟨(slices_Clone_int_nil 0 c w).mono λe w' g=>by
    obtain ⟨rfl,rfl⟩:=g;exact m.ri 3 1⟩
  | some a=>exact ⟨(slices_Clone_int_zero a c w).mono λe w' g=>by
    obtain ⟨n,rfl,i,-,d⟩:=g;obtain ⟨p,f⟩:=YC i;exact m.newRow ⟨d.os,d.tape,d.output,d.size,λk f _=>d.block k f⟩ p f⟩
 ·refine ⟨(slices_Clone_int b o (l.map (Value.int .i64)).length c l w (by simp) (by simp;omega) ?_).mono λe w' g=>?_⟩
  ·intro j q;rw [s j (.int .i64 l[j]) (by simp [q])];simp [List.getElem?_eq_getElem q]
  ·obtain ⟨n,rfl,i,-,d⟩:=g;rw [List.take_of_length_le (by simp),List.length_map] at i;obtain ⟨p,f⟩:=YC i;exact m.newRow ⟨d.os,d.tape,d.output,d.size,λk f _=>d.block k f⟩ p f
theorem CI {v:Value}{l:List Bool}(ma:l.length<=65536) (h:sy w v (l.map Value.bool)) (d:fa I da w rs) :
  kb prog 165 [v] w (λt w'=>fa I da w' (.row t 4 1 l.length (l.map Value.bool)::rs)):=by
 rcases h with ⟨f,a,c,rfl⟩ | ⟨b,o,c,rfl,G,A⟩
 ·obtain rfl:l=[]:=List.map_eq_nil_iff.1 f;cases a with
  | none=>exact ⟨(mM 0 c w).mono λe w' j=>by
    obtain ⟨rfl,rfl⟩:=j;exact d.ri 4 1⟩
  | some a =>
   refine enter func165 rfl (frm:=[_,_,_,_,_,_,_,_]) rfl ?_;refine la ?_;refine Ph ?_;refine wl (nr db (wa Eb) ?_);refine ah ?_;refine gg ?_;refine la ?_;refine la ?_;refine Ph ?_;refine wl (Ai (ba d0) (wa nc) ?_);refine wl (ZQ underlying272 (ba d3) (wa Xc) ?_);refine ah ?_;refine gg ?_;refine fk (ba d4) ?_;refine Ni ?_;refine gg ?_;refine la ?_;refine Ph ?_;refine wl (jK underlying272 Sm d ?_);clear d;intro Lf H K d;refine pu (wa qd) ?_;replace d:=d.gq (n:=0) (sz:=Ma.sz Bool) d0 rfl (by decide) za;refine wl (Ai (ba d0) (wa Vd) ?_);refine wl (tr (α:=Bool) (l:=[]) (ys:=[]) (news:=[]) underlying272 Sm rfl (ba d5) (ba d6) d d0 (λe=>absurd rfl e) rfl (show app [] []=some [] from rfl) (by decide) ?_);clear d;intro L M B C d;cases (show _=B from C);replace d:=Sep.pe d za;refine pu (wa Wd) ?_;refine wl (nr (ba d7) (wa Eb) ?_);refine ah ?_;refine gg ?_;refine Tn ?_;refine Od rfl d2 ?_;exact d
 ·have D:∃ i z,prog.info? 4=some i/\i.zero=some z/\i.size=1/\i.bytes=1/\z.cells.size=1:=by
   obtain ⟨i,z,f,m,p,q,r⟩:=(Sm).inf;exact ⟨i,z,f,m,q,r,by rw [p];rfl⟩
  obtain ⟨i,z,f,m,p,q,r⟩:=D;refine ⟨(oM i z 1 1 f m p q r (by decide) (λw=>(Sm).sizeOf) b o (l.map Value.bool).length c (l.map Value.bool) w (by simp) (by simp [maxLen];omega) (by simp;omega) A (λu E=>?_)).mono λe w' j=>?_⟩
  ·obtain ⟨x,-,rfl⟩:=List.mem_map.1 E;rfl
  ·obtain ⟨t,rfl,y,-,g⟩:=j;rw [List.length_map] at y;obtain ⟨F,s⟩:=YC y;exact d.newRow ⟨g.os,g.tape,g.output,g.size,λk s _=>g.block k s⟩ F s
theorem fL (μ:M) (l:List Value) (x:Bool) (h:Ma.cs μ l x):l=[.bool x]:=h
theorem Yx {α:Type}[Ma α]{f:α->Value}(a:∀ (μ:M) (x:α),Ma.cs μ [f x] x):∀ (l:List α),qa μ (l.map f) l
 | []=>rfl
 | x::l=>⟨[f x],_,rfl,a μ x,Yx a l⟩
end
end Go.Proofs.YtafjdiifkckmbaaGreatDoor
