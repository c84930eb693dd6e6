/- Texts of Fl. -/
import Derived.Test.YtafjdiifkckmbaaGreatDoorCXt
import Derived.Test.YtafjdiifkckmbaaGreatDoorProg
import Derived.KernelRfl
import Derived.Test.YtafjdiifkckmbaaGreatDoorCXu
import Derived.Shelf.Strconv.Itoa0
import Derived.Shelf.Strconv.Itoa1
import Derived.Shelf.LaysM
import Derived.Shelf.Strconv.Itoa2
import Derived.Shelf.Strconv.Itoa3
import Derived.Shelf.Strconv.ParseIntEmpty
import Derived.Shelf.Strconv.Clone
import Derived.Shelf.Strconv.SyntaxError
import Derived.Shelf.LaysC
import Derived.Shelf.Strconv.ToError
import Derived.Shelf.Strconv.Lower
import Derived.Shelf.Strconv.ParseUint10
import Derived.Shelf.Strconv.ParseUint10Empty
import Derived.Shelf.Strconv.ParseUint10Any
import Derived.Shelf.Strconv.ParseInt10
import Derived.Shelf.Strconv.RangeError
import Derived.Shelf.Strconv.ToErrorRange
import Derived.Shelf.Strconv.ParseUintEmpty
import Derived.Shelf.Strconv.ParseUint10b64
import Derived.Shelf.Strconv.ParseUint10b32
import Derived.Shelf.Strconv.ParseUint10b16
import Derived.Shelf.Strconv.ParseUint10b8
import Derived.Shelf.Strconv.ParseUint10At
import Derived.Shelf.Strconv.ParseInt10At64
import Derived.Shelf.Strconv.ParseInt10At32
import Derived.Shelf.Strconv.ParseInt10At16
import Derived.Shelf.Strconv.ParseInt10At8
import Derived.Shelf.Strconv.ParseInt10All
import Derived.Shelf.Strconv.ParseIntPublic10
import Derived.Shelf.Strings.Search1
import Derived.Shelf.Strings.Search2
import Derived.Shelf.Strings.Search3
import Derived.Shelf.Strings.Shaped
import Derived.Shelf.Strings.Prefix
import Derived.Shelf.Slices.Turned
import Derived.Ground.Names2Prog
import Derived.Shelf.Slices.Clone
import Derived.Ground.SlgnProg
import Derived.Shelf.SlicesE.Clone
import Derived.Test.YtafjdiifkckmbaaGreatDoorCMd
import Derived.Lib.SlicesS
set_option linter.unusedSimpArgs false
set_option linter.unusedVariables false
set_option linter.unusedSectionVars false
namespace Go.Proofs.YtafjdiifkckmbaaGreatDoor
open Go.Bc Go.Re
section
open Tryz
instance u1:fb prog 5:=vb func5
instance IU:fb prog 6:=vb func6
instance w1:fb prog 7:=vb func7
instance KS:fb prog 10:=vb func10
instance FZ:fb prog 11:=vb func11
instance GZ:fb prog 12:=vb func12
instance iK:fb prog 13:=vb func13
instance HZ:fb prog 14:=vb func14
instance jK:fb prog 15:=vb func15
instance LS:fb prog 16:=vb func16
instance MS:fb prog 17:=vb func17
instance NS:fb prog 18:=vb func18
instance IZ:fb prog 19:=vb func19
instance JZ:fb prog 20:=vb func20
instance KZ:fb prog 21:=vb func21
instance LZ:fb prog 22:=vb func22
instance MZ:fb prog 23:=vb func23
instance NZ:fb prog 24:=vb func24
instance OZ:fb prog 25:=vb func25
instance PZ:fb prog 26:=vb func26
instance OS:fb prog 27:=vb func27
instance FF:fb prog 28:=vb func28
instance QZ:fb prog 29:=vb func29
instance RZ:fb prog 30:=vb func30
instance kK:fb prog 31:=vb func31
instance SZ:fb prog 32:=vb func32
instance PS:fb prog 33:=vb func33
instance TZ:fb prog 35:=vb func35
instance QS:fb prog 36:=vb func36
instance UZ:fb prog 37:=vb func37
instance lK:fb prog 38:=vb func38
instance VZ:fb prog 39:=vb func39
instance WZ:fb prog 40:=vb func40
instance RS:fb prog 41:=vb func41
instance XZ:fb prog 42:=vb func42
instance SS:fb prog 43:=vb func43
instance TS:fb prog 44:=vb func44
instance US:fb prog 45:=vb func45
instance VS:fb prog 46:=vb func46
instance WS:fb prog 47:=vb func47
instance XS:fb prog 48:=vb func48
instance YZ:fb prog 49:=vb func49
instance ct:fb prog 51:=vb func51
instance ZZ:fb prog 52:=vb func52
instance YS:fb prog 53:=vb func53
instance b0:fb prog 54:=vb func54
instance e0:fb prog 55:=vb func55
instance h0:fb prog 56:=vb func56
instance mK:fb prog 57:=vb func57
instance j0:fb prog 58:=vb func58
instance l0:fb prog 59:=vb func59
instance ZS:fb prog 60:=vb func60
instance GF:fb prog 61:=vb func61
instance aT:fb prog 62:=vb func62
instance HF:fb prog 63:=vb func63
instance bT:fb prog 64:=vb func64
instance n0:fb prog 65:=vb func65
instance o0:fb prog 66:=vb func66
instance p0:fb prog 67:=vb func67
instance q0:fb prog 68:=vb func68
instance r0:fb prog 69:=vb func69
instance s0:fb prog 70:=vb func70
instance u0:fb prog 72:=vb func72
instance w0:fb prog 73:=vb func73
instance y0:fb prog 75:=vb func75
instance nK:fb prog 76:=vb func76
instance A0:fb prog 77:=vb func77
instance B0:fb prog 78:=vb func78
instance C0:fb prog 79:=vb func79
instance cT:fb prog 80:=vb func80
instance dT:fb prog 81:=vb func81
instance D0:fb prog 82:=vb func82
instance E0:fb prog 83:=vb func83
instance F0:fb prog 84:=vb func84
instance G0:fb prog 86:=vb func86
instance H0:fb prog 87:=vb func87
instance I0:fb prog 88:=vb func88
instance J0:fb prog 89:=vb func89
instance gy:fb prog 90:=vb func90
instance WA:fb prog 91:=vb func91
instance K0:fb prog 92:=vb func92
instance L0:fb prog 93:=vb func93
instance M0:fb prog 94:=vb func94
instance N0:fb prog 95:=vb func95
instance O0:fb prog 96:=vb func96
instance P0:fb prog 97:=vb func97
instance Q0:fb prog 98:=vb func98
instance IF:fb prog 99:=vb func99
instance SW:fb prog 100:=vb func100
instance TW:fb prog 101:=vb func101
instance UW:fb prog 102:=vb func102
instance Hn:fb prog 103:=vb func103
instance eF:fb prog 104:=vb func104
instance VW:fb prog 105:=vb func105
instance WW:fb prog 106:=vb func106
instance XW:fb prog 110:=vb func110
instance YW:fb prog 111:=vb func111
instance Bu:fb prog 112:=vb func112
instance ZW:fb prog 113:=vb func113
instance aX:fb prog 114:=vb func114
instance bX:fb prog 115:=vb func115
instance cX:fb prog 116:=vb func116
instance dX:fb prog 117:=vb func117
instance eX:fb prog 118:=vb func118
instance aR:fb prog 119:=vb func119
instance fX:fb prog 120:=vb func120
instance gX:fb prog 121:=vb func121
instance hX:fb prog 122:=vb func122
instance bR:fb prog 123:=vb func123
instance iX:fb prog 124:=vb func124
instance tJ:fb prog 125:=vb func125
instance cR:fb prog 126:=vb func126
instance dR:fb prog 127:=vb func127
instance eR:fb prog 128:=vb func128
instance fR:fb prog 129:=vb func129
instance jX:fb prog 130:=vb func130
instance kX:fb prog 131:=vb func131
instance lX:fb prog 132:=vb func132
instance mX:fb prog 133:=vb func133
instance nX:fb prog 136:=vb func136
instance fF:fb prog 139:=vb func139
instance uJ:fb prog 140:=vb func140
instance gR:fb prog 141:=vb func141
instance oX:fb prog 142:=vb func142
instance pX:fb prog 143:=vb func143
instance qX:fb prog 144:=vb func144
instance rX:fb prog 150:=vb func150
instance hR:fb prog 151:=vb func151
instance iR:fb prog 152:=vb func152
instance vJ:fb prog 153:=vb func153
instance sX:fb prog 154:=vb func154
instance tX:fb prog 155:=vb func155
instance uX:fb prog 156:=vb func156
instance jR:fb prog 159:=vb func159
instance wJ:fb prog 164:=vb func164
instance xJ:fb prog 165:=vb func165
instance kR:fb prog 166:=vb func166
instance lR:fb prog 167:=vb func167
instance vX:fb prog 168:=vb func168
instance wX:fb prog 169:=vb func169
instance xX:fb prog 170:=vb func170
instance yX:fb prog 172:=vb func172
instance zX:fb prog 175:=vb func175
instance AX:fb prog 176:=vb func176
instance Yp:fb prog 177:=vb func177
instance gF:fb prog 178:=vb func178
instance mR:fb prog 185:=vb func185
instance BX:fb prog 186:=vb func186
instance CX:fb prog 188:=vb func188
instance yJ:fb prog 191:=vb func191
instance DX:fb prog 192:=vb func192
instance EX:fb prog 193:=vb func193
instance FX:fb prog 194:=vb func194
instance GX:fb prog 197:=vb func197
instance HX:fb prog 198:=vb func198
instance IX:fb prog 199:=vb func199
instance JX:fb prog 205:=vb func205
instance nR:fb prog 236:=vb func236
instance oR:fb prog 237:=vb func237
instance pR:fb prog 238:=vb func238
instance qR:fb prog 239:=vb func239
instance KX:fb prog 240:=vb func240
instance LX:fb prog 241:=vb func241
instance MX:fb prog 242:=vb func242
instance NX:fb prog 243:=vb func243
instance Rf:wb prog 2 false [.int .i64 0] 1 8:=Oc (z:=.int .i64 0) underlying2
instance kc:wb prog 3 false [.int .i64 0] 1 8:=Oc (z:=.int .i64 0) underlying3
instance Qm:wb prog 4 false [.bool false] 1 1:=Oc (z:=.bool false) underlying4
instance yg:wb prog 9 false [S []] 1 16:=Oc (z:=S []) underlying9
instance DB:wb prog 22 false [.slice none 0 0] 1 24:=Oc (z:=.slice none 0 0) underlying22
instance EB:wb prog 24 false [.int .i64 0] 1 8:=Oc (z:=.int .i64 0) underlying24
instance ed:wb prog 26 true [.int .i64 0,.int .i64 0] 2 16:=Oc (z:=.agg #[.int .i64 0,.int .i64 0]) underlying26
instance yw:wb prog 28 false [.slice none 0 0] 1 24:=Oc (z:=.slice none 0 0) underlying28
instance FB:wb prog 29 false [.slice none 0 0] 1 24:=Oc (z:=.slice none 0 0) underlying29
instance fj:wb prog 31 true [.slice none 0 0,.slice none 0 0,.int .i64 0] 3 56:=Oc (z:=.agg #[.slice none 0 0,.slice none 0 0,.int .i64 0]) underlying31
instance Jm:wb prog 34 false [.slice none 0 0] 1 24:=Oc (z:=.slice none 0 0) underlying34
instance Ao:wb prog 36 true [.int .i64 0,.int .i64 0,.int .i64 0,.slice none 0 0] 4 48:=Oc (z:=.agg #[.int .i64 0,.int .i64 0,.int .i64 0,.slice none 0 0]) underlying36
instance bc:wb prog 41 true [.int .i64 0,S []] 2 24:=Oc (z:=.agg #[.int .i64 0,S []]) underlying41
instance aW:wb prog 42 false [.slice none 0 0] 1 24:=Oc (z:=.slice none 0 0) underlying42
instance tG:wb prog 43 false [.slice none 0 0] 1 24:=Oc (z:=.slice none 0 0) underlying43
instance Gg:wb prog 45 true [.int .i64 0,S [],.int .i64 0,S [],.int .i64 0,S [],.int .i64 0,.slice none 0 0,.slice none 0 0] 9 128:=Oc (z:=.agg #[.int .i64 0,S [],.int .i64 0,S [],.int .i64 0,S [],.int .i64 0,.slice none 0 0,.slice none 0 0]) underlying45
instance uG:wb prog 48 false [.slice none 0 0] 1 24:=Oc (z:=.slice none 0 0) underlying48
instance GB:wb prog 49 false [.slice none 0 0] 1 24:=Oc (z:=.slice none 0 0) underlying49
instance Bo:wb prog 51 true [.slice none 0 0,.slice none 0 0] 2 48:=Oc (z:=.agg #[.slice none 0 0,.slice none 0 0]) underlying51
instance vG:wb prog 60 true [] 0 0:=Oc (z:=.agg #[]) underlying60
instance jL:wb prog 61 false [.pointer none] 1 8:=Oc (z:=.pointer none) underlying61
instance HB:wb prog 62 false [.map none] 1 8:=Oc (z:=.map none) underlying62
instance kL:wb prog 63 false [.map none] 1 8:=Oc (z:=.map none) underlying63
instance mq:wb prog 64 false [.map none] 1 8:=Oc (z:=.map none) underlying64
instance bW:wb prog 66 true [.map none,.map none,.map none,.int .i64 0] 4 32:=Oc (z:=.agg #[.map none,.map none,.map none,.int .i64 0]) underlying66
instance Ft:wb prog 69 false [.pointer none] 1 8:=Oc (z:=.pointer none) underlying69
instance ll:wb prog 70 false [.pointer none] 1 8:=Oc (z:=.pointer none) underlying70
instance cW:wb prog 72 true [.int .i64 0,.slice none 0 0] 2 32:=Oc (z:=.agg #[.int .i64 0,.slice none 0 0]) underlying72
instance Gt:wb prog 73 false [.pointer none] 1 8:=Oc (z:=.pointer none) underlying73
instance lL:wb prog 76 false [.nilFunc] 1 8:=Oc (z:=.nilFunc) underlying76
instance Co:wb prog 77 false [.nilFunc] 1 8:=Oc (z:=.nilFunc) underlying77
instance mL:wb prog 78 false [.slice none 0 0] 1 24:=Oc (z:=.slice none 0 0) underlying78
instance ln:wb prog 79 false [.pointer none] 1 8:=Oc (z:=.pointer none) underlying79
instance dW:wb prog 81 true [.pointer none,.nilFunc,.slice none 0 0,.pointer none,.int .i64 0,.int .i64 0,.int .i64 0,.slice none 0 0] 8 96:=Oc (z:=.agg #[.pointer none,.nilFunc,.slice none 0 0,.pointer none,.int .i64 0,.int .i64 0,.int .i64 0,.slice none 0 0]) underlying81
instance Fy:wb prog 90 false [.pointer none] 1 8:=Oc (z:=.pointer none) underlying90
instance eW:wb prog 92 true [.int .i64 0,.int .i64 0] 2 16:=Oc (z:=.agg #[.int .i64 0,.int .i64 0]) underlying92
instance IB:wb prog 94 true [.int .i64 0,.int .i64 0] 2 16:=Oc (z:=.agg #[.int .i64 0,.int .i64 0]) underlying94
instance Ht:wb prog 96 false [.slice none 0 0] 1 24:=Oc (z:=.slice none 0 0) underlying96
instance fW:wb prog 99 false [.pointer none] 1 8:=Oc (z:=.pointer none) underlying99
instance hp:wb prog 103 false [.slice none 0 0] 1 24:=Oc (z:=.slice none 0 0) underlying103
instance my:wb prog 105 true [.slice none 0 0,.slice none 0 0,.slice none 0 0] 3 72:=Oc (z:=.agg #[.slice none 0 0,.slice none 0 0,.slice none 0 0]) underlying105
instance ny:wb prog 108 true [S [],S [],S []] 3 48:=Oc (z:=.agg #[S [],S [],S []]) underlying108
instance JU:wb prog 109 false [.pointer none] 1 8:=Oc (z:=.pointer none) underlying109
instance pr:wb prog 110 true [.slice none 0 0,.pointer none] 2 32:=Oc (z:=.agg #[.slice none 0 0,.pointer none]) underlying110
instance UF:wb prog 113 false [.pointer none] 1 8:=Oc (z:=.pointer none) underlying113
instance mw:wb prog 115 false [.nilFunc] 1 8:=Oc (z:=.nilFunc) underlying115
instance oy:wb prog 117 true [.pointer none,.pointer none,.bool false,.bool false,.bool false,.pointer none,.nilFunc,.nilFunc] 8 48:=Oc (z:=.agg #[.pointer none,.pointer none,.bool false,.bool false,.bool false,.pointer none,.nilFunc,.nilFunc]) underlying117
instance y1:wb prog 119 false [.pointer none] 1 8:=Oc (z:=.pointer none) underlying119
instance VF:wb prog 121 true [.nilFunc,.nilFunc] 2 16:=Oc (z:=.agg #[.nilFunc,.nilFunc]) underlying121
instance py:wb prog 122 false [.slice none 0 0] 1 24:=Oc (z:=.slice none 0 0) underlying122
instance z1:wb prog 127 false [.pointer none] 1 8:=Oc (z:=.pointer none) underlying127
instance KU:wb prog 129 true [.slice none 0 0,.int .i64 0,.int .i64 0] 3 40:=Oc (z:=.agg #[.slice none 0 0,.int .i64 0,.int .i64 0]) underlying129
instance LU:wb prog 133 false [.pointer none] 1 8:=Oc (z:=.pointer none) underlying133
instance MU:wb prog 135 true [.map none,.map none,.map none] 3 24:=Oc (z:=.agg #[.map none,.map none,.map none]) underlying135
instance xo:wb prog 138 true [.int .i64 0,.int .i64 0] 2 16:=Oc (z:=.agg #[.int .i64 0,.int .i64 0]) underlying138
instance lB:wb prog 139 false [.slice none 0 0] 1 24:=Oc (z:=.slice none 0 0) underlying139
instance yj:wb prog 141 true [.int .i64 0,.int .i64 0,.slice none 0 0,.int .i64 0,.int .i64 0,.slice none 0 0] 6 80:=Oc (z:=.agg #[.int .i64 0,.int .i64 0,.slice none 0 0,.int .i64 0,.int .i64 0,.slice none 0 0]) underlying141
instance ck:wb prog 144 true [.int .i64 0,.int .i64 0,.int .i64 0] 3 24:=Oc (z:=.agg #[.int .i64 0,.int .i64 0,.int .i64 0]) underlying144
instance qy:wb prog 146 false [.slice none 0 0] 1 24:=Oc (z:=.slice none 0 0) underlying146
instance nw:wb prog 148 false [.slice none 0 0] 1 24:=Oc (z:=.slice none 0 0) underlying148
instance NU:wb prog 150 true [.slice none 0 0,.slice none 0 0,.int .i64 0] 3 56:=Oc (z:=.agg #[.slice none 0 0,.slice none 0 0,.int .i64 0]) underlying150
instance Lu:wb prog 151 false [.pointer none] 1 8:=Oc (z:=.pointer none) underlying151
instance ow:wb prog 154 false [.pointer none] 1 8:=Oc (z:=.pointer none) underlying154
instance OU:wb prog 157 false [.nilIface] 1 16:=Oc (z:=.nilIface) underlying157
instance LK:wb prog 158 false [.slice none 0 0] 1 24:=Oc (z:=.slice none 0 0) underlying158
instance mB:wb prog 159 false [.pointer none] 1 8:=Oc (z:=.pointer none) underlying159
instance PU:wb prog 160 false [.nilFunc] 1 8:=Oc (z:=.nilFunc) underlying160
instance QU:wb prog 162 true [.pointer none,.nilIface,.slice none 0 0,.pointer none,.int .i64 0,.int .i64 0,.int .i64 0,.slice none 0 0,.nilFunc] 9 112:=Oc (z:=.agg #[.pointer none,.nilIface,.slice none 0 0,.pointer none,.int .i64 0,.int .i64 0,.int .i64 0,.slice none 0 0,.nilFunc]) underlying162
instance RU:wb prog 165 true [.slice none 0 0,.map none] 2 32:=Oc (z:=.agg #[.slice none 0 0,.map none]) underlying165
instance XF:wb prog 167 false [.nilFunc] 1 8:=Oc (z:=.nilFunc) underlying167
instance vt:wb prog 172 false [.pointer none] 1 8:=Oc (z:=.pointer none) underlying172
instance YF:wb prog 173 false [.slice none 0 0] 1 24:=Oc (z:=.slice none 0 0) underlying173
instance wg:wb prog 175 true [.int .i64 0,.int .i64 0,S [],.slice none 0 0] 4 56:=Oc (z:=.agg #[.int .i64 0,.int .i64 0,S [],.slice none 0 0]) underlying175
instance dk:wb prog 177 true [.int .i64 0,S [],.int .i64 0,.int .i64 0,S [],.slice none 0 0,.slice none 0 0,.slice none 0 0] 8 128:=Oc (z:=.agg #[.int .i64 0,S [],.int .i64 0,.int .i64 0,S [],.slice none 0 0,.slice none 0 0,.slice none 0 0]) underlying177
instance xt:wb prog 178 false [.nilFunc] 1 8:=Oc (z:=.nilFunc) underlying178
instance A1:wb prog 181 false [.pointer none] 1 8:=Oc (z:=.pointer none) underlying181
instance MK:wb prog 183 true [S [],.int .i64 0,.pointer none] 3 32:=Oc (z:=.agg #[S [],.int .i64 0,.pointer none]) underlying183
instance jl:wb prog 188 true [.int .i64 0,S [],.int .i64 0,.int .i64 0] 4 40:=Oc (z:=.agg #[.int .i64 0,S [],.int .i64 0,.int .i64 0]) underlying188
instance SU:wb prog 205 true [.int .i64 0] 1 8:=Oc (z:=.agg #[.int .i64 0]) underlying205
instance ZF:wb prog 207 false [.slice none 0 0] 1 24:=Oc (z:=.slice none 0 0) underlying207
instance TU:wb prog 209 true [.pointer none,.int .i64 0,.int .i64 0,.slice none 0 0,.int .i64 0,.int .i64 0,.slice none 0 0,.slice none 0 0] 8 112:=Oc (z:=.agg #[.pointer none,.int .i64 0,.int .i64 0,.slice none 0 0,.int .i64 0,.int .i64 0,.slice none 0 0,.slice none 0 0]) underlying209
instance Wl:wb prog 211 true [S [],.int .i64 0,S []] 3 40:=Oc (z:=.agg #[S [],.int .i64 0,S []]) underlying211
instance UU:wb prog 214 false [.pointer none] 1 8:=Oc (z:=.pointer none) underlying214
instance VU:wb prog 216 true [.pointer none] 1 8:=Oc (z:=.agg #[.pointer none]) underlying216
instance WU:wb prog 220 true [.slice none 0 0,.int .i64 0,.int .i64 0] 3 40:=Oc (z:=.agg #[.slice none 0 0,.int .i64 0,.int .i64 0]) underlying220
instance XU:wb prog 222 false [.slice none 0 0] 1 24:=Oc (z:=.slice none 0 0) underlying222
instance YU:wb prog 223 false [.pointer none] 1 8:=Oc (z:=.pointer none) underlying223
instance ZU:wb prog 225 true [.int .i64 0,.pointer none,.slice none 0 0,.pointer none] 4 48:=Oc (z:=.agg #[.int .i64 0,.pointer none,.slice none 0 0,.pointer none]) underlying225
instance ry:wb prog 228 true [.int .i64 0,.int .i64 0,.int .i64 0] 3 24:=Oc (z:=.agg #[.int .i64 0,.int .i64 0,.int .i64 0]) underlying228
instance lj:wb prog 231 true [.int .i64 0,.int .i64 0,.int .i64 0] 3 24:=Oc (z:=.agg #[.int .i64 0,.int .i64 0,.int .i64 0]) underlying231
instance B1:wb prog 242 false [.pointer none] 1 8:=Oc (z:=.pointer none) underlying242
instance rr:wb prog 243 false [.map none] 1 8:=Oc (z:=.map none) underlying243
instance nB:wb prog 244 false [.slice none 0 0] 1 24:=Oc (z:=.slice none 0 0) underlying244
instance aV:wb prog 246 true [.pointer none,.pointer none,.slice none 0 0] 3 40:=Oc (z:=.agg #[.pointer none,.pointer none,.slice none 0 0]) underlying246
instance C1:wb prog 257 false [.nilFunc] 1 8:=Oc (z:=.nilFunc) underlying257
instance bV:wb prog 267 false [.pointer none] 1 8:=Oc (z:=.pointer none) underlying267
instance cV:wb prog 271 false [.map none] 1 8:=Oc (z:=.map none) underlying271
instance NK:wb prog 272 false [.slice none 0 0] 1 24:=Oc (z:=.slice none 0 0) underlying272
instance Dm:wb prog 274 true [.slice none 0 0,.slice none 0 0] 2 48:=Oc (z:=.agg #[.slice none 0 0,.slice none 0 0]) underlying274
instance dV:wb prog 276 true [.pointer none,.pointer none,.map none,.slice none 0 0,.slice none 0 0,.slice none 0 0,.int .i64 0] 7 104:=Oc (z:=.agg #[.pointer none,.pointer none,.map none,.slice none 0 0,.slice none 0 0,.slice none 0 0,.int .i64 0]) underlying276
instance eV:wb prog 284 true [.slice none 0 0,.int .i64 0,.int .i64 0,.int .i64 0] 4 48:=Oc (z:=.agg #[.slice none 0 0,.int .i64 0,.int .i64 0,.int .i64 0]) underlying284
instance yt:wb prog 338 true [.map none,.bool false] 2 16:=Oc (z:=.agg #[.map none,.bool false]) underlying338
theorem nL:prog.eqGuardType prog.depth 41=false:=by kernel_rfl
theorem oL:prog.stoodInHeld 41=false:=by kernel_rfl
instance OX:Vb prog 105 0 0:=Yb underlying105 rfl rfl rfl hp rfl
instance PX:Vb prog 105 1 1:=Yb underlying105 rfl rfl rfl hp rfl
instance QX:Vb prog 105 2 2:=Yb underlying105 rfl rfl rfl hp rfl
instance RX:Vb prog 108 1 1:=Yb underlying108 rfl rfl rfl yg rfl
instance SX:Vb prog 108 2 2:=Yb underlying108 rfl rfl rfl yg rfl
instance TX:Vb prog 110 0 0:=Yb underlying110 rfl rfl rfl hp rfl
instance UX:Vb prog 110 1 1:=Yb underlying110 rfl rfl rfl JU rfl
instance VX:Vb prog 117 0 0:=Yb underlying117 rfl rfl rfl Ft rfl
instance WX:Vb prog 117 1 1:=Yb underlying117 rfl rfl rfl UF rfl
instance XX:Vb prog 117 2 2:=Yb underlying117 rfl rfl rfl Qm rfl
instance YX:Vb prog 117 3 3:=Yb underlying117 rfl rfl rfl Qm rfl
instance ZX:Vb prog 117 4 4:=Yb underlying117 rfl rfl rfl Qm rfl
instance aY:Vb prog 117 5 5:=Yb underlying117 rfl rfl rfl ln rfl
instance bY:Vb prog 117 6 6:=Yb underlying117 rfl rfl rfl mw rfl
instance cY:Vb prog 117 7 7:=Yb underlying117 rfl rfl rfl mw rfl
instance dY:Vb prog 121 0 0:=Yb underlying121 rfl rfl rfl mw rfl
instance eY:Vb prog 121 1 1:=Yb underlying121 rfl rfl rfl Co rfl
instance fY:Vb prog 129 0 0:=Yb underlying129 rfl rfl rfl py rfl
instance gY:Vb prog 129 2 2:=Yb underlying129 rfl rfl rfl kc rfl
instance hY:Vb prog 135 0 0:=Yb underlying135 rfl rfl rfl mq rfl
instance iY:Vb prog 135 1 1:=Yb underlying135 rfl rfl rfl mq rfl
instance jY:Vb prog 135 2 2:=Yb underlying135 rfl rfl rfl HB rfl
instance kY:Vb prog 138 0 0:=Yb underlying138 rfl rfl rfl kc rfl
instance lY:Vb prog 138 1 1:=Yb underlying138 rfl rfl rfl kc rfl
instance mY:Vb prog 141 0 0:=Yb underlying141 rfl rfl rfl kc rfl
instance nY:Vb prog 141 1 1:=Yb underlying141 rfl rfl rfl kc rfl
instance oY:Vb prog 141 2 2:=Yb underlying141 rfl rfl rfl Ht rfl
instance pY:Vb prog 141 5 5:=Yb underlying141 rfl rfl rfl lB rfl
instance qY:Vb prog 144 0 0:=Yb underlying144 rfl rfl rfl EB rfl
instance rY:Vb prog 150 0 0:=Yb underlying150 rfl rfl rfl qy rfl
instance sY:Vb prog 150 1 1:=Yb underlying150 rfl rfl rfl nw rfl
instance tY:Vb prog 150 2 2:=Yb underlying150 rfl rfl rfl kc rfl
instance uY:Vb prog 162 0 0:=Yb underlying162 rfl rfl rfl Fy rfl
instance vY:Vb prog 162 1 1:=Yb underlying162 rfl rfl rfl OU rfl
instance wY:Vb prog 162 2 2:=Yb underlying162 rfl rfl rfl LK rfl
instance xY:Vb prog 162 3 3:=Yb underlying162 rfl rfl rfl mB rfl
instance yY:Vb prog 162 4 4:=Yb underlying162 rfl rfl rfl kc rfl
instance zY:Vb prog 162 5 5:=Yb underlying162 rfl rfl rfl kc rfl
instance AY:Vb prog 162 6 6:=Yb underlying162 rfl rfl rfl kc rfl
instance BY:Vb prog 162 7 7:=Yb underlying162 rfl rfl rfl Jm rfl
instance CY:Vb prog 162 8 8:=Yb underlying162 rfl rfl rfl PU rfl
instance DY:Vb prog 165 1 1:=Yb underlying165 rfl rfl rfl HB rfl
instance EY:Vb prog 175 0 0:=Yb underlying175 rfl rfl rfl kc rfl
instance FY:Vb prog 175 1 1:=Yb underlying175 rfl rfl rfl Rf rfl
instance GY:Vb prog 175 2 2:=Yb underlying175 rfl rfl rfl yg rfl
instance HY:Vb prog 175 3 3:=Yb underlying175 rfl rfl rfl YF rfl
instance IY:Vb prog 177 0 0:=Yb underlying177 rfl rfl rfl kc rfl
instance JY:Vb prog 177 1 1:=Yb underlying177 rfl rfl rfl yg rfl
instance KY:Vb prog 177 2 2:=Yb underlying177 rfl rfl rfl wg rfl
instance LY:Vb prog 177 3 6:=Yb underlying177 rfl rfl rfl tG rfl
instance MY:Vb prog 177 4 7:=Yb underlying177 rfl rfl rfl tG rfl
instance NY:Vb prog 183 0 0:=Yb underlying183 rfl rfl rfl yg rfl
instance OY:Vb prog 183 1 1:=Yb underlying183 rfl rfl rfl Rf rfl
instance PY:Vb prog 183 2 2:=Yb underlying183 rfl rfl rfl UF rfl
instance QY:Vb prog 188 0 0:=Yb underlying188 rfl rfl rfl kc rfl
instance RY:Vb prog 188 1 1:=Yb underlying188 rfl rfl rfl yg rfl
instance SY:Vb prog 188 2 2:=Yb underlying188 rfl rfl rfl Rf rfl
instance TY:Vb prog 188 3 3:=Yb underlying188 rfl rfl rfl kc rfl
instance UY:Vb prog 205 0 0:=Yb underlying205 rfl rfl rfl kc rfl
instance VY:Vb prog 209 0 0:=Yb underlying209 rfl rfl rfl LU rfl
instance WY:Vb prog 209 1 1:=Yb underlying209 rfl rfl rfl yj rfl
instance XY:Vb prog 209 2 7:=Yb underlying209 rfl rfl rfl ZF rfl
instance rR:Vb prog 211 0 0:=Yb underlying211 rfl rfl rfl yg rfl
instance YY:Vb prog 211 1 1:=Yb underlying211 rfl rfl rfl bc rfl
instance ZY:Vb prog 216 0 0:=Yb underlying216 rfl rfl rfl Fy rfl
instance aZ:Vb prog 220 0 0:=Yb underlying220 rfl rfl rfl Jm rfl
instance bZ:Vb prog 220 1 1:=Yb underlying220 rfl rfl rfl kc rfl
instance cZ:Vb prog 220 2 2:=Yb underlying220 rfl rfl rfl kc rfl
instance dZ:Vb prog 225 0 0:=Yb underlying225 rfl rfl rfl kc rfl
instance eZ:Vb prog 225 1 1:=Yb underlying225 rfl rfl rfl mB rfl
instance fZ:Vb prog 225 2 2:=Yb underlying225 rfl rfl rfl XU rfl
instance gZ:Vb prog 225 3 3:=Yb underlying225 rfl rfl rfl YU rfl
instance hZ:Vb prog 228 0 0:=Yb underlying228 rfl rfl rfl kc rfl
instance iZ:Vb prog 228 1 1:=Yb underlying228 rfl rfl rfl kc rfl
instance jZ:Vb prog 231 0 0:=Yb underlying231 rfl rfl rfl kc rfl
instance kZ:Vb prog 231 1 1:=Yb underlying231 rfl rfl rfl kc rfl
instance lZ:Vb prog 231 2 2:=Yb underlying231 rfl rfl rfl Rf rfl
instance mZ:Vb prog 246 0 0:=Yb underlying246 rfl rfl rfl fW rfl
instance nZ:Vb prog 246 1 1:=Yb underlying246 rfl rfl rfl Ft rfl
instance oZ:Vb prog 246 2 2:=Yb underlying246 rfl rfl rfl nB rfl
instance S0:Vb prog 26 0 0:=Yb underlying26 rfl rfl rfl EB rfl
instance pZ:Vb prog 274 0 0:=Yb underlying274 rfl rfl rfl Ht rfl
instance qZ:Vb prog 274 1 1:=Yb underlying274 rfl rfl rfl NK rfl
instance rZ:Vb prog 276 0 0:=Yb underlying276 rfl rfl rfl UU rfl
instance sZ:Vb prog 276 1 1:=Yb underlying276 rfl rfl rfl bV rfl
instance tZ:Vb prog 276 2 2:=Yb underlying276 rfl rfl rfl cV rfl
instance uZ:Vb prog 276 3 3:=Yb underlying276 rfl rfl rfl Ht rfl
instance vZ:Vb prog 276 4 4:=Yb underlying276 rfl rfl rfl Dm rfl
instance wZ:Vb prog 276 5 6:=Yb underlying276 rfl rfl rfl EB rfl
instance xZ:Vb prog 284 0 0:=Yb underlying284 rfl rfl rfl Jm rfl
instance yZ:Vb prog 284 1 1:=Yb underlying284 rfl rfl rfl kc rfl
instance zZ:Vb prog 284 2 2:=Yb underlying284 rfl rfl rfl kc rfl
instance AZ:Vb prog 284 3 3:=Yb underlying284 rfl rfl rfl kc rfl
instance oK:Vb prog 31 0 0:=Yb underlying31 rfl rfl rfl yw rfl
instance pK:Vb prog 31 1 1:=Yb underlying31 rfl rfl rfl FB rfl
instance T0:Vb prog 31 2 2:=Yb underlying31 rfl rfl rfl kc rfl
instance BZ:Vb prog 338 0 0:=Yb underlying338 rfl rfl rfl mq rfl
instance CZ:Vb prog 338 1 1:=Yb underlying338 rfl rfl rfl Qm rfl
instance eT:Vb prog 36 0 0:=Yb underlying36 rfl rfl rfl kc rfl
instance fT:Vb prog 36 1 1:=Yb underlying36 rfl rfl rfl kc rfl
instance U0:Vb prog 36 2 2:=Yb underlying36 rfl rfl rfl kc rfl
instance V0:Vb prog 36 3 3:=Yb underlying36 rfl rfl rfl Jm rfl
instance W0:Vb prog 41 0 0:=Yb underlying41 rfl rfl rfl kc rfl
instance X0:Vb prog 41 1 1:=Yb underlying41 rfl rfl rfl yg rfl
instance Y0:Vb prog 45 0 0:=Yb underlying45 rfl rfl rfl kc rfl
instance JF:Vb prog 45 1 1:=Yb underlying45 rfl rfl rfl yg rfl
instance Z0:Vb prog 45 2 2:=Yb underlying45 rfl rfl rfl bc rfl
instance a1:Vb prog 45 3 4:=Yb underlying45 rfl rfl rfl bc rfl
instance b1:Vb prog 45 4 6:=Yb underlying45 rfl rfl rfl kc rfl
instance c1:Vb prog 45 5 7:=Yb underlying45 rfl rfl rfl aW rfl
instance e1:Vb prog 45 6 8:=Yb underlying45 rfl rfl rfl tG rfl
instance h1:Vb prog 51 0 0:=Yb underlying51 rfl rfl rfl uG rfl
instance j1:Vb prog 51 1 1:=Yb underlying51 rfl rfl rfl GB rfl
instance gT:Vb prog 66 0 0:=Yb underlying66 rfl rfl rfl HB rfl
instance hT:Vb prog 66 1 1:=Yb underlying66 rfl rfl rfl kL rfl
instance qK:Vb prog 66 2 2:=Yb underlying66 rfl rfl rfl mq rfl
instance l1:Vb prog 66 3 3:=Yb underlying66 rfl rfl rfl kc rfl
instance n1:Vb prog 72 0 0:=Yb underlying72 rfl rfl rfl kc rfl
instance iT:Vb prog 72 1 1:=Yb underlying72 rfl rfl rfl Jm rfl
instance jT:Vb prog 81 0 0:=Yb underlying81 rfl rfl rfl jL rfl
instance kT:Vb prog 81 1 1:=Yb underlying81 rfl rfl rfl Co rfl
instance o1:Vb prog 81 2 2:=Yb underlying81 rfl rfl rfl mL rfl
instance p1:Vb prog 81 3 3:=Yb underlying81 rfl rfl rfl ln rfl
instance KF:Vb prog 81 4 4:=Yb underlying81 rfl rfl rfl Ao rfl
instance q1:Vb prog 92 0 0:=Yb underlying92 rfl rfl rfl kc rfl
instance r1:Vb prog 92 1 1:=Yb underlying92 rfl rfl rfl kc rfl
theorem fV:Jg prog 108 #[(0,1),(1,1),(2,1)]:=Wg underlying108 (λ_=>by kernel_rfl)
theorem OK:Jg prog 110 #[(0,1),(1,1)]:=Wg underlying110 (λ_=>by kernel_rfl)
theorem PK:Jg prog 117 #[(0,1),(1,1),(2,1),(3,1),(4,1),(5,1),(6,1),(7,1)]:=Wg underlying117 (λ_=>by kernel_rfl)
theorem aG:Jg prog 121 #[(0,1),(1,1)]:=Wg underlying121 (λ_=>by kernel_rfl)
theorem gV:Jg prog 129 #[(0,1),(1,1),(2,1)]:=Wg underlying129 (λ_=>by kernel_rfl)
theorem hV:Jg prog 135 #[(0,1),(1,1),(2,1)]:=Wg underlying135 (λ_=>by kernel_rfl)
theorem iV:Jg prog 138 #[(0,1),(1,1)]:=Wg underlying138 (λ_=>by kernel_rfl)
theorem jV:Jg prog 141 #[(0,1),(1,1),(2,1),(3,1),(4,1),(5,1)]:=Wg underlying141 (λ_=>by kernel_rfl)
theorem bG:Jg prog 144 #[(0,1),(1,1),(2,1)]:=Wg underlying144 (λ_=>by kernel_rfl)
theorem kV:Jg prog 150 #[(0,1),(1,1),(2,1)]:=Wg underlying150 (λ_=>by kernel_rfl)
theorem lV:Jg prog 162 #[(0,1),(1,1),(2,1),(3,1),(4,1),(5,1),(6,1),(7,1),(8,1)]:=Wg underlying162 (λ_=>by kernel_rfl)
theorem mV:Jg prog 165 #[(0,1),(1,1)]:=Wg underlying165 (λ_=>by kernel_rfl)
theorem cG:Jg prog 175 #[(0,1),(1,1),(2,1),(3,1)]:=Wg underlying175 (λ_=>by kernel_rfl)
theorem dG:Jg prog 177 #[(0,1),(1,1),(2,4),(6,1),(7,1)]:=Wg underlying177 (λ_=>by kernel_rfl)
theorem QK:Jg prog 183 #[(0,1),(1,1),(2,1)]:=Wg underlying183 (λ_=>by kernel_rfl)
theorem nV:Jg prog 188 #[(0,1),(1,1),(2,1),(3,1)]:=Wg underlying188 (λ_=>by kernel_rfl)
theorem oV:Jg prog 205 #[(0,1)]:=Wg underlying205 (λ_=>by kernel_rfl)
theorem pV:Jg prog 209 #[(0,1),(1,6),(7,1)]:=Wg underlying209 (λ_=>by kernel_rfl)
theorem qV:Jg prog 216 #[(0,1)]:=Wg underlying216 (λ_=>by kernel_rfl)
theorem rV:Jg prog 220 #[(0,1),(1,1),(2,1)]:=Wg underlying220 (λ_=>by kernel_rfl)
theorem sV:Jg prog 225 #[(0,1),(1,1),(2,1),(3,1)]:=Wg underlying225 (λ_=>by kernel_rfl)
theorem tV:Jg prog 228 #[(0,1),(1,1),(2,1)]:=Wg underlying228 (λ_=>by kernel_rfl)
theorem uV:Jg prog 231 #[(0,1),(1,1),(2,1)]:=Wg underlying231 (λ_=>by kernel_rfl)
theorem vV:Jg prog 246 #[(0,1),(1,1),(2,1)]:=Wg underlying246 (λ_=>by kernel_rfl)
theorem mn:Jg prog 26 #[(0,1),(1,1)]:=Wg underlying26 (λ_=>by kernel_rfl)
theorem SK:Jg prog 274 #[(0,1),(1,1)]:=Wg underlying274 (λ_=>by kernel_rfl)
theorem wV:Jg prog 276 #[(0,1),(1,1),(2,1),(3,1),(4,2),(6,1)]:=Wg underlying276 (λ_=>by kernel_rfl)
theorem xV:Jg prog 284 #[(0,1),(1,1),(2,1),(3,1)]:=Wg underlying284 (λ_=>by kernel_rfl)
theorem pL:Jg prog 31 #[(0,1),(1,1),(2,1)]:=Wg underlying31 (λ_=>by kernel_rfl)
theorem sy:Jg prog 338 #[(0,1),(1,1)]:=Wg underlying338 (λ_=>by kernel_rfl)
theorem qL:Jg prog 36 #[(0,1),(1,1),(2,1),(3,1)]:=Wg underlying36 (λ_=>by kernel_rfl)
theorem Gy:Jg prog 41 #[(0,1),(1,1)]:=Wg underlying41 (λ_=>by kernel_rfl)
theorem rL:Jg prog 45 #[(0,1),(1,1),(2,2),(4,2),(6,1),(7,1),(8,1)]:=Wg underlying45 (λ_=>by kernel_rfl)
theorem gW:Jg prog 60 #[]:=Wg underlying60 (λ_=>by kernel_rfl)
theorem hW:Jg prog 66 #[(0,1),(1,1),(2,1),(3,1)]:=Wg underlying66 (λ_=>by kernel_rfl)
theorem iW:Jg prog 72 #[(0,1),(1,1)]:=Wg underlying72 (λ_=>by kernel_rfl)
theorem jW:Jg prog 81 #[(0,1),(1,1),(2,1),(3,1),(4,4)]:=Wg underlying81 (λ_=>by kernel_rfl)
theorem kW:Jg prog 92 #[(0,1),(1,1)]:=Wg underlying92 (λ_=>by kernel_rfl)
theorem lW:Jg prog 94 #[(0,1),(1,1)]:=Wg underlying94 (λ_=>by kernel_rfl)
theorem TK:∀ w,(zeroValue 105).run prog w=.ok (.agg #[.slice none 0 0,.slice none 0 0,.slice none 0 0]) w:=kt (by kernel_rfl)
theorem eG:∀ w,(zeroValue 274).run prog w=.ok (.agg #[.slice none 0 0,.slice none 0 0]) w:=kt (by kernel_rfl)
theorem Hw:∀ w,(zeroValue 3).run prog w=.ok (.int .i64 0) w:=kt (by kernel_rfl)
theorem mW:∀ w,(zeroValue 41).run prog w=.ok (.agg #[.int .i64 0,S []]) w:=kt (by kernel_rfl)
theorem Tu:∀ w,(zeroValue 69).run prog w=.ok (.pointer none) w:=kt (by kernel_rfl)
theorem JB:∀ w,(zeroValue 70).run prog w=.ok (.pointer none) w:=kt (by kernel_rfl)
end
instance:Gh Tryz.prog 2 (.int Go.IntKind.i64):=⟨Tryz.underlying2⟩
instance:Gh Tryz.prog 9 .string:=⟨Tryz.underlying9⟩
instance:Gh Tryz.prog 22 (.slice 45):=⟨Tryz.underlying22⟩
instance:Gh Tryz.prog 28 (.slice 36):=⟨Tryz.underlying28⟩
instance:Gh Tryz.prog 34 (.slice 2):=⟨Tryz.underlying34⟩
instance:Gh Tryz.prog 42 (.slice 211):=⟨Tryz.underlying42⟩
instance:Gh Tryz.prog 43 (.slice 177):=⟨Tryz.underlying43⟩
instance:Gh Tryz.prog 48 (.slice 138):=⟨Tryz.underlying48⟩
instance:Gh Tryz.prog 49 (.slice 141):=⟨Tryz.underlying49⟩
instance:Gh Tryz.prog 78 (.slice 79):=⟨Tryz.underlying78⟩
instance:Gh Tryz.prog 86 (.slice 92):=⟨Tryz.underlying86⟩
instance:Gh Tryz.prog 96 (.slice 3):=⟨Tryz.underlying96⟩
instance:Gh Tryz.prog 103 (.slice 9):=⟨Tryz.underlying103⟩
instance:Gh Tryz.prog 111 (.slice 110):=⟨Tryz.underlying111⟩
instance:Gh Tryz.prog 122 (.slice 188):=⟨Tryz.underlying122⟩
instance:Gh Tryz.prog 139 (.slice 231):=⟨Tryz.underlying139⟩
instance:Gh Tryz.prog 146 (.slice 154):=⟨Tryz.underlying146⟩
instance:Gh Tryz.prog 168 (.slice 167):=⟨Tryz.underlying168⟩
instance:Gh Tryz.prog 169 (.slice 69):=⟨Tryz.underlying169⟩
instance:Gh Tryz.prog 173 (.slice 175):=⟨Tryz.underlying173⟩
instance:Gh Tryz.prog 207 (.slice 64):=⟨Tryz.underlying207⟩
instance:Gh Tryz.prog 222 (.slice 228):=⟨Tryz.underlying222⟩
instance:Gh Tryz.prog 244 (.slice 243):=⟨Tryz.underlying244⟩
instance:Gh Tryz.prog 335 (.slice 338):=⟨Tryz.underlying335⟩
end Go.Proofs.YtafjdiifkckmbaaGreatDoor
namespace Go.Proofs
open Go.Shelf
def Tryz.jM:Go.Shelf.Ren:=⟨λ| 174=>64 | 247=>108 | 245=>109 | 287=>145 | 279=>146 | 280=>147 | 281=>148 | 282=>149 | 321=>179 | 322=>180 | 316=>181 | 171=>183 | 205=>182 | 243=>195 | 246=>200 | 283=>206 | 284=>207 | 285=>208 | 286=>209 | 129=>215 | 317=>214 | 318=>216 | 319=>217 | 320=>218 | 337=>219 | 338=>220 | n=>n,λ| 9=>9 | 3=>3 | 2=>2 | 75=>192 | 85=>193 | 4=>4 | 167=>289 | 5=>5 | 53=>290 | 175=>291 | 46=>293 | 168=>294 | 37=>316 | 0=>0 | 210=>318 | 21=>21 | 127=>331 | 145=>334 | 143=>332 | 171=>342 | 173=>345 | 212=>353 | 51=>347 | 20=>20 | 213=>354 | 232=>357 | 233=>358 | 80=>197 | n=>n,λ| 15=>0 | 16=>1 | 17=>3 | 18=>4 | 19=>5 | n=>n⟩
theorem Tryz.oP:Go.Proofs.LaysC.n174 Tryz.prog Tryz.jM:={
 mixed:=by kernel_rfl
 f129:=Tryz.func215.trans (congrArg some (by kernel_rfl))
 f171:=Tryz.func183.trans (congrArg some (by kernel_rfl))
 f174:=Tryz.func64.trans (congrArg some (by kernel_rfl))
 f205:=Tryz.func182.trans (congrArg some (by kernel_rfl))
 f243:=Tryz.func195.trans (congrArg some (by kernel_rfl))
 f245:=Tryz.func109.trans (congrArg some (by kernel_rfl))
 f246:=Tryz.func200.trans (congrArg some (by kernel_rfl))
 f247:=Tryz.func108.trans (congrArg some (by kernel_rfl))
 f279:=Tryz.func146.trans (congrArg some (by kernel_rfl))
 f280:=Tryz.func147.trans (congrArg some (by kernel_rfl))
 f281:=Tryz.func148.trans (congrArg some (by kernel_rfl))
 f282:=Tryz.func149.trans (congrArg some (by kernel_rfl))
 f283:=Tryz.func206.trans (congrArg some (by kernel_rfl))
 f284:=Tryz.func207.trans (congrArg some (by kernel_rfl))
 f285:=Tryz.func208.trans (congrArg some (by kernel_rfl))
 f286:=Tryz.func209.trans (congrArg some (by kernel_rfl))
 f287:=Tryz.func145.trans (congrArg some (by kernel_rfl))
 f316:=Tryz.func181.trans (congrArg some (by kernel_rfl))
 f317:=Tryz.func214.trans (congrArg some (by kernel_rfl))
 f318:=Tryz.func216.trans (congrArg some (by kernel_rfl))
 f319:=Tryz.func217.trans (congrArg some (by kernel_rfl))
 f320:=Tryz.func218.trans (congrArg some (by kernel_rfl))
 f321:=Tryz.func179.trans (congrArg some (by kernel_rfl))
 f322:=Tryz.func180.trans (congrArg some (by kernel_rfl))
 f337:=Tryz.func219.trans (congrArg some (by kernel_rfl))
 f338:=Tryz.func220.trans (congrArg some (by kernel_rfl))
 t0:=Tryz.underlying0
 a0:=Tryz.isAgg0
 z0:=Tryz.sizeOf0
 v0:=Tryz.zeroValue0
 t2:=Tryz.underlying2
 a2:=Tryz.isAgg2
 z2:=Tryz.sizeOf2
 v2:=Tryz.zeroValue2
 t3:=Tryz.underlying3
 a3:=Tryz.isAgg3
 z3:=Tryz.sizeOf3
 v3:=Tryz.zeroValue3
 t4:=Tryz.underlying4
 a4:=Tryz.isAgg4
 z4:=Tryz.sizeOf4
 v4:=Tryz.zeroValue4
 t5:=Tryz.underlying5
 a5:=Tryz.isAgg5
 z5:=Tryz.sizeOf5
 v5:=Tryz.zeroValue5
 t9:=Tryz.underlying9
 a9:=Tryz.isAgg9
 z9:=Tryz.sizeOf9
 v9:=Tryz.zeroValue9
 t20:=Tryz.underlying20
 a20:=Tryz.isAgg20
 z20:=Tryz.sizeOf20
 v20:=Tryz.zeroValue20
 t21:=Tryz.underlying21
 a21:=Tryz.isAgg21
 z21:=Tryz.sizeOf21
 v21:=Tryz.zeroValue21
 t37:=Tryz.underlying316
 a37:=Tryz.isAgg316
 z37:=Tryz.sizeOf316
 v37:=Tryz.zeroValue316
 t46:=Tryz.underlying293
 a46:=Tryz.isAgg293
 z46:=Tryz.sizeOf293
 v46:=Tryz.zeroValue293
 t51:=Tryz.underlying347
 a51:=Tryz.isAgg347
 z51:=Tryz.sizeOf347
 v51:=Tryz.zeroValue347
 t53:=Tryz.underlying290
 a53:=Tryz.isAgg290
 z53:=Tryz.sizeOf290
 v53:=Tryz.zeroValue290
 t75:=Tryz.underlying192
 a75:=Tryz.isAgg192
 z75:=Tryz.sizeOf192
 v75:=Tryz.zeroValue192
 t85:=Tryz.underlying193
 a85:=Tryz.isAgg193
 z85:=Tryz.sizeOf193
 v85:=Tryz.zeroValue193
 t127:=Tryz.underlying331
 a127:=Tryz.isAgg331
 z127:=Tryz.sizeOf331
 v127:=Tryz.zeroValue331
 t143:=Tryz.underlying332
 a143:=Tryz.isAgg332
 z143:=Tryz.sizeOf332
 v143:=Tryz.zeroValue332
 t145:=Tryz.underlying334
 a145:=Tryz.isAgg334
 z145:=Tryz.sizeOf334
 v145:=Tryz.zeroValue334
 t167:=Tryz.underlying289
 a167:=Tryz.isAgg289
 z167:=Tryz.sizeOf289
 v167:=Tryz.zeroValue289
 t168:=Tryz.underlying294
 a168:=Tryz.isAgg294
 z168:=Tryz.sizeOf294
 v168:=Tryz.zeroValue294
 t171:=Tryz.underlying342
 a171:=Tryz.isAgg342
 z171:=Tryz.sizeOf342
 v171:=Tryz.zeroValue342
 t173:=Tryz.underlying345
 a173:=Tryz.isAgg345
 z173:=Tryz.sizeOf345
 v173:=Tryz.zeroValue345
 t175:=Tryz.underlying291
 a175:=Tryz.isAgg291
 z175:=Tryz.sizeOf291
 v175:=Tryz.zeroValue291
 t210:=Tryz.underlying318
 a210:=Tryz.isAgg318
 z210:=Tryz.sizeOf318
 v210:=Tryz.zeroValue318
 t212:=Tryz.underlying353
 a212:=Tryz.isAgg353
 z212:=Tryz.sizeOf353
 v212:=Tryz.zeroValue353
 t213:=Tryz.underlying354
 a213:=Tryz.isAgg354
 z213:=Tryz.sizeOf354
 t232:=Tryz.underlying357
 a232:=Tryz.isAgg357
 z232:=Tryz.sizeOf357
 v232:=Tryz.zeroValue357
 t233:=Tryz.underlying358
 a233:=Tryz.isAgg358
 z233:=Tryz.sizeOf358
 v233:=Tryz.zeroValue358
 g15:=by kernel_rfl
 g16:=by kernel_rfl
 g17:=by kernel_rfl
 g18:=by kernel_rfl
 g19:=by kernel_rfl
 t80:=Tryz.underlying197
 a80:=Tryz.isAgg197
 z80:=Tryz.sizeOf197
 v80:=Tryz.zeroValue197
 i0:=by kernel_rfl
 i2:=by kernel_rfl
 i3:=by kernel_rfl
 i4:=by kernel_rfl
 i5:=by kernel_rfl
 i9:=by kernel_rfl
 i20:=by kernel_rfl
 i21:=by kernel_rfl
 i37:=by kernel_rfl
 i46:=by kernel_rfl
 i51:=by kernel_rfl
 i53:=by kernel_rfl
 i75:=by kernel_rfl
 i80:=by kernel_rfl
 i85:=by kernel_rfl
 i127:=by kernel_rfl
 i143:=by kernel_rfl
 i145:=by kernel_rfl
 i167:=by kernel_rfl
 i168:=by kernel_rfl
 i171:=by kernel_rfl
 i173:=by kernel_rfl
 i175:=by kernel_rfl
 i210:=by kernel_rfl
 i212:=by kernel_rfl
 i232:=by kernel_rfl
 i233:=by kernel_rfl
 m15:=by kernel_rfl
 m16:=by kernel_rfl
 m17:=by kernel_rfl
 m18:=by kernel_rfl
 m19:=by kernel_rfl
 c0:=by kernel_rfl
 c2:=by kernel_rfl
 c3:=by kernel_rfl
 c4:=by kernel_rfl
 c5:=by kernel_rfl
 c9:=by kernel_rfl
 c20:=by kernel_rfl
 c21:=by kernel_rfl
 c37:=by kernel_rfl
 c46:=by kernel_rfl
 c51:=by kernel_rfl
 c53:=by kernel_rfl
 c75:=by kernel_rfl
 c80:=by kernel_rfl
 c85:=by kernel_rfl
 c127:=by kernel_rfl
 c143:=by kernel_rfl
 c145:=by kernel_rfl
 c167:=by kernel_rfl
 c168:=by kernel_rfl
 c171:=by kernel_rfl
 c173:=by kernel_rfl
 c175:=by kernel_rfl
 c210:=by kernel_rfl
 c212:=by kernel_rfl
 c213:=by kernel_rfl
 c232:=by kernel_rfl
 c233:=by kernel_rfl }
open Go.RowKit in
theorem Tryz.strconv_ParseInt_10_at64_ok (s:ByteArray) (a:s.size<=9223372036854775806) (v:Int) (h:Lib.parseIntB 64 s.data.toList=.ok v) (w:World) :
  Calls Tryz.prog 64 #[.string s,.int .i64 10,.int .i64 64] w λe w'=>e=.returned (.tuple #[.int .i64 v,.nilIface])/\(w'=w\/∃ t,w'=Lib.bytesWorld w 5 t):=Any.strconv_ParseInt_10_at64_ok Tryz.oP s a v h w
def Tryz.CM:Go.Shelf.Ren:=⟨λ| 144=>151 | 143=>184 | 219=>196 | 217=>201 | 225=>202 | 224=>203 | 267=>204 | 266=>210 | 314=>211 | n=>n,λ| 9=>9 | 4=>4 | 3=>3 | 5=>5 | 46=>293 | 146=>348 | 51=>347 | n=>n,λ| 1=>2 | n=>n⟩
theorem Tryz.sR:Go.Proofs.Lays.n144 Tryz.prog Tryz.CM:={
 mixed:=by kernel_rfl
 f143:=Tryz.func184.trans (congrArg some (by kernel_rfl))
 f144:=Tryz.func151.trans (congrArg some (by kernel_rfl))
 f217:=Tryz.func201.trans (congrArg some (by kernel_rfl))
 f219:=Tryz.func196.trans (congrArg some (by kernel_rfl))
 f224:=Tryz.func203.trans (congrArg some (by kernel_rfl))
 f225:=Tryz.func202.trans (congrArg some (by kernel_rfl))
 f266:=Tryz.func210.trans (congrArg some (by kernel_rfl))
 f267:=Tryz.func204.trans (congrArg some (by kernel_rfl))
 f314:=Tryz.func211.trans (congrArg some (by kernel_rfl))
 t3:=Tryz.underlying3
 a3:=Tryz.isAgg3
 z3:=Tryz.sizeOf3
 v3:=Tryz.zeroValue3
 t4:=Tryz.underlying4
 a4:=Tryz.isAgg4
 z4:=Tryz.sizeOf4
 v4:=Tryz.zeroValue4
 t5:=Tryz.underlying5
 a5:=Tryz.isAgg5
 z5:=Tryz.sizeOf5
 v5:=Tryz.zeroValue5
 t9:=Tryz.underlying9
 a9:=Tryz.isAgg9
 z9:=Tryz.sizeOf9
 v9:=Tryz.zeroValue9
 t46:=Tryz.underlying293
 a46:=Tryz.isAgg293
 z46:=Tryz.sizeOf293
 v46:=Tryz.zeroValue293
 t51:=Tryz.underlying347
 a51:=Tryz.isAgg347
 z51:=Tryz.sizeOf347
 v51:=Tryz.zeroValue347
 t146:=Tryz.underlying348
 a146:=Tryz.isAgg348
 z146:=Tryz.sizeOf348
 v146:=Tryz.zeroValue348
 g1:=by kernel_rfl }
open Go.RowKit Go.Lib in
theorem Tryz.strings_Contains (s sub:ByteArray) (m:Int) (w:World) (a:s.size<4294967281) (b:w.cell? ⟨2,0,none⟩=some (.int .i64 m)) :
  Calls Tryz.prog 151 #[.string s,.string sub] w λe w'=>e=.returned (.bool (Lib.contains s.data.toList sub.data.toList))/\w'=w:=Any.strings_Contains Tryz.sR s sub m w a b
def Tryz.DM:Go.Shelf.Ren:=⟨λ| 110=>28 | 109=>50 | n=>n,λ| 31=>103 | 9=>9 | 4=>4 | 3=>3 | 0=>0 | n=>n,λ| n=>n⟩
theorem Tryz.zJ:Go.Proofs.Lays.n110 Tryz.prog Tryz.DM:={
 mixed:=by kernel_rfl
 f109:=Tryz.func50.trans (congrArg some (by kernel_rfl))
 f110:=Tryz.func28.trans (congrArg some (by kernel_rfl))
 t0:=Tryz.underlying0
 a0:=Tryz.isAgg0
 z0:=Tryz.sizeOf0
 v0:=Tryz.zeroValue0
 t3:=Tryz.underlying3
 a3:=Tryz.isAgg3
 z3:=Tryz.sizeOf3
 v3:=Tryz.zeroValue3
 t4:=Tryz.underlying4
 a4:=Tryz.isAgg4
 z4:=Tryz.sizeOf4
 v4:=Tryz.zeroValue4
 t9:=Tryz.underlying9
 a9:=Tryz.isAgg9
 z9:=Tryz.sizeOf9
 v9:=Tryz.zeroValue9
 t31:=Tryz.underlying103
 a31:=Tryz.isAgg103
 z31:=Tryz.sizeOf103
 v31:=Tryz.zeroValue103 }
open Go.Lib in
theorem Tryz.slices_Contains_string (b off n c:Nat) (a:List ByteArray) (x:ByteArray) (w:World) (d:n<=a.length) (f:n<=9223372036854775807) (g:∀ j,j<a.length->w.cell? ⟨b,off+j,none⟩=some (.string (a.getD j ByteArray.empty))) :
  Calls Tryz.prog 28 #[.slice (some ⟨b,off,none⟩) n c,.string x] w λe w'=>e=.returned (.bool (Lib.containsS (a.take n) x))/\w'=w:=Any.slices_Contains_string Tryz.zJ b off n c a x w d f g
open Go.Lib in
theorem Tryz.slices_Contains_string_empty (a:Option Addr) (c:Nat) (x:ByteArray) (w:World) :
  Calls Tryz.prog 28 #[.slice a 0 c,.string x] w λe w'=>e=.returned (.bool false)/\w'=w:=Any.slices_Contains_string_empty Tryz.zJ a c x w
def Tryz.eM:Go.Shelf.Ren:=⟨λ| 15=>164 | n=>n,λ| 22=>96 | 3=>3 | 4=>4 | n=>n,λ| n=>n⟩
theorem Tryz.LD:Go.Proofs.Lays2.n15 Tryz.prog Tryz.eM:={
 mixed:=by kernel_rfl
 f15:=Tryz.func164.trans (congrArg some (by kernel_rfl))
 t3:=Tryz.underlying3
 a3:=Tryz.isAgg3
 z3:=Tryz.sizeOf3
 v3:=Tryz.zeroValue3
 t4:=Tryz.underlying4
 a4:=Tryz.isAgg4
 z4:=Tryz.sizeOf4
 v4:=Tryz.zeroValue4
 t22:=Tryz.underlying96
 a22:=Tryz.isAgg96
 z22:=Tryz.sizeOf96
 v22:=Tryz.zeroValue96
 i3:=by kernel_rfl }
open Go.RowKit Go.Lib in
theorem Tryz.slices_Clone_int (b off n c:Nat) (a:List Int) (w:World) (f:n<=a.length) (g:n*8<=140737488355328) (h:∀ j,j<a.length->w.cell? ⟨b,off+j,none⟩=some (.int .i64 (a.getD j 0))) :
  Calls Tryz.prog 164 #[.slice (some ⟨b,off,none⟩) n c] w λe w'=>∃ d,e=.returned d/\w'.ownsRow w.heap.size 3 1 d n ((a.take n).map (Value.int .i64))/\d≠.slice none 0 0/\Below w.heap.size w w':=Any.slices_Clone_int Tryz.LD b off n c a w f g h
open Go.RowKit Go.Lib in
theorem Tryz.slices_Clone_int_nil (n c:Nat) (w:World) :
  Calls Tryz.prog 164 #[.slice none n c] w λe w'=>e=.returned (.slice none 0 0)/\w'=w:=Any.slices_Clone_int_nil Tryz.LD n c w
open Go.RowKit Go.Lib in
theorem Tryz.slices_Clone_int_zero (a:Addr) (c:Nat) (w:World) :
  Calls Tryz.prog 164 #[.slice (some a) 0 c] w λe w'=>∃ b,e=.returned b/\w'.ownsRow w.heap.size 3 1 b 0 []/\b≠.slice none 0 0/\Below w.heap.size w w':=Any.slices_Clone_int_zero Tryz.LD a c w
def Tryz.bM:Go.Shelf.Ren:=⟨λ| 41=>165 | n=>n,λ| 22=>272 | 23=>4 | 4=>4 | n=>n,λ| n=>n⟩
theorem Tryz.fH:Go.Proofs.SlLaysE0.n41 Tryz.prog Tryz.bM:={
 mixed:=by kernel_rfl
 f41:=⟨Tryz.f165.name,by decide,Tryz.func165.trans (congrArg some (by kernel_rfl))⟩
 t4:=Tryz.underlying4
 a4:=Tryz.isAgg4
 z4:=Tryz.sizeOf4
 v4:=Tryz.zeroValue4
 t22:=Tryz.underlying272
 a22:=Tryz.isAgg272
 z22:=Tryz.sizeOf272
 v22:=Tryz.zeroValue272 }
open Go.RowKit Go.Lib in
theorem Tryz.cM (a:TypeInfo) (z:Value) (size bytes:Nat) (f:Tryz.prog.info? 4=some a) (g:a.zero=some z) (h:a.size=size) (i:a.bytes=bytes) (k:z.cells.size=size) (l:0<size) (m:∀ w,(Go.sizeOf 4).run Tryz.prog w=.ok size w) (b off n c:Nat) (news:List Value) (w:World) (la:news.length=n*size) (o:n<=maxLen) (p:n*bytes<=140737488355328) (q:∀ j u,news[j]?=some u->w.cell? ⟨b,off+j,none⟩=some u) (r:∀ u ∈ news,u.oneCell'=true) :
  Calls Tryz.prog 165 #[.slice (some ⟨b,off,none⟩) n c] w λe w'=>∃ d,e=.returned d/\w'.ownsRow w.heap.size 4 size d n news/\d≠.slice none 0 0/\Below w.heap.size w w':=AnyE.slices_Clone Tryz.fH a z size bytes f g h i k l m b off n c news w la o p q r
open Go.RowKit Go.Lib in
theorem Tryz.aM (n c:Nat) (w:World) :
  Calls Tryz.prog 165 #[.slice none n c] w λe w'=>e=.returned (.slice none 0 0)/\w'=w:=AnyE.slices_Clone_nil Tryz.fH n c w
end Go.Proofs
namespace Go.Proofs.YtafjdiifkckmbaaGreatDoor
open Go.Bc Go.Re Go.Y Tryz
def Kb:M:=λw=>∃ m,w.cell? ⟨2,0,none⟩=some (.int .i64 m)
theorem lT {I:M}{da w:World}{rsF:List Ha}{l:List UInt8}{r:Int}(g:qG l=some r) (b:fa I da w rsF) :
  kb prog 64 [S l,.int .i64 10,.int .i64 64] w (λv w'=>v=.tuple ⟨[.int .i64 r,.nilIface]⟩/\fa I da w' rsF):=by
 unfold qG at g;split at g
 ·rename_i la;cases a:Lib.parseIntB 64 l with
  | ok v =>
   rw [a] at g;obtain rfl:=Option.some.inj g;refine ⟨(strconv_ParseInt_10_at64_ok ⟨⟨l⟩⟩ la v a w).mono λe w' c=>?_⟩;obtain ⟨rfl,hw⟩:=c;refine ⟨rfl,?_⟩;rcases hw with rfl | ⟨t,rfl⟩
   ·exact b
   ·have h:=Lib.bytesWorld_below w 5 t;exact b.grow ⟨h.os,h.tape,h.output,h.size,λk d _=>h.block k d⟩
  | _=>rw [a] at g; cases g
 ·cases g
theorem tR {I:M}{da w:World}{rsF:List Ha}{l sub:List UInt8}{b:Bool}(d:ha Kb I) (g:gB l sub=some b) (c:fa I da w rsF) :
  kb prog 151 [S l,S sub] w (λv w'=>v=.bool b/\fa I da w' rsF):=by
 unfold gB at g;split at g
 ·rename_i la;obtain rfl:=Option.some.inj g;obtain ⟨m,hm⟩:=d w c.a;refine ⟨(strings_Contains ⟨⟨l⟩⟩ ⟨⟨sub⟩⟩ m w la hm).mono λe w' f=>?_⟩;obtain ⟨rfl,rfl⟩:=f;exact ⟨rfl,c⟩
 ·cases g
open Go.RowKit
section
variable {μ I:M}{da w:World}{rsF rs:List Ha}
def hy (w:World) (v:Value) (vs:List Value):Prop:=(vs=[]/\∃ a c,v=.slice a 0 c)\/∃ b o c,v=.slice (some ⟨b,o,none⟩) vs.length c/\vs.length<=9223372036854775807/\∀ j y,vs[j]?=some y->w.cell? ⟨b,o+j,none⟩=some y
theorem VI {α:Type}[Ja α]{f:α->Value}(a:∀ (μ:M) (l:List Value) (x:α),Ja.cs μ l x->l=[f x]):∀ {l:List α}{cells:List Value},qa μ cells l->cells=l.map f
 | [],cells,h=>by rw [qa] at h; simp [h]
 | x::l,cells,h=>by
  rw [qa] at h;obtain ⟨cs,t,rfl,b,c⟩:=h;rw [a _ _ _ b,VI a c];rfl
theorem jA {α:Type}[Ja α]{f:α->Value}(c:∀ (μ:M) (l:List Value) (x:α),Ja.cs μ l x->l=[f x]){v:Value}{T:TypeId}{l:List α}{cells:List Value}(h:Row w v T 1 l.length cells) (d:qa μ cells l):hy w v (l.map f):=by
 have e:=VI c d;subst e;rcases h.2 with ⟨rfl,b⟩ | ⟨g,o,cap,cur,rfl,i,k,b,n,m⟩
 ·exact .inl ⟨by rw [List.length_eq_zero_iff.1 b];rfl,none,0,rfl⟩
 ·refine .inr ⟨g,o,cap,by simp,by simp;exact Nat.le_trans k (Nat.le_trans b (by decide)),λj y a=>?_⟩;rw [cell_of_row w g (o+j) cur T (0,0) i];rw [<- m,List.getElem?_take] at a;split at a
  ·rw [List.getElem?_drop] at a;simpa using a
  ·cases a
theorem wE {α:Type}[Ja α]{f:α->Value}(g:∀ (μ:M) (l:List Value) (x:α),Ja.cs μ l x->l=[f x]) (i:Ja.sz α=1){a:Option Addr}{c:Nat}{l:List α}(h:za μ a c l) (k:μ w):hy w (.slice a l.length c) (l.map f):=by
 rcases h.el with rfl | ⟨b,o,rfl,q,m⟩
 ·exact .inl ⟨rfl,a,c,rfl⟩
 ·refine .inr ⟨b,o,c,by simp,by simp;exact za.len h,λj y d=>?_⟩;simp only [List.getElem?_map,Option.map_eq_some_iff] at d;obtain ⟨x,n,rfl⟩:=d;obtain ⟨e,p⟩:=m j x n;rw [g _ _ _ p,i] at e;have:=e w k 0 _ rfl;simpa using this
theorem wG (μ:M) (l:List Value) (x:List UInt8) (h:Ja.cs μ l x):l=[S x]:=h
theorem sL (μ:M) (l:List Value) (x:Int) (h:Ja.cs μ l x):l=[.int .i64 x]:=h
theorem PC {v:Value}{l:List (List UInt8)}{x:List UInt8}(h:hy w v (l.map S)):kb prog 28 [v,S x] w (λv w'=>v=.bool (l.contains x)/\w'=w):=by
 rcases h with ⟨i,a,c,rfl⟩ | ⟨b,o,c,rfl,la,k⟩
 ·obtain rfl:l=[]:=List.map_eq_nil_iff.1 i;exact ⟨(slices_Contains_string_empty a c ⟨⟨x⟩⟩ w).mono λe w' d=>by
   obtain ⟨rfl,rfl⟩:=d;exact ⟨rfl,rfl⟩⟩
 ·refine ⟨(slices_Contains_string b o (l.map S).length c (l.map λy=>⟨⟨y⟩⟩) ⟨⟨x⟩⟩ w (by simp) la ?_).mono λe w' d=>?_⟩
  ·intro j m;have g:j<l.length:=by simpa using m
   rw [k j (S l[j]) (by simp [g])];simp [List.getElem?_eq_getElem g,S]
  ·obtain ⟨rfl,rfl⟩:=d;refine ⟨?_,rfl⟩;congr 1;rw [List.take_of_length_le (by simp),Bool.eq_iff_iff,Lib.containsS_iff,List.contains_iff_mem];constructor
   ·intro f;obtain ⟨y,p,e⟩:=List.mem_map.1 f;have n:y=x:=congrArg (λb:ByteArray=>b.data.toList) e;rwa [<- n]
   ·exact λf=>List.mem_map.2 ⟨x,f,rfl⟩
theorem tI {v:Value}{l:List Int}(la:l.length<=65536) (h:hy w v (l.map (Value.int .i64))) (m:fa I da w rs) :
  kb prog 164 [v] w (λn w'=>fa I da w' (.row n 3 1 l.length (l.map (Value.int .i64))::rs)):=by
 rcases h with ⟨r,a,c,rfl⟩ | ⟨b,o,c,rfl,t,s⟩
 ·obtain rfl:l=[]:=List.map_eq_nil_iff.1 r;cases a with
  | none=>exact ⟨(slices_Clone_int_nil 0 c w).mono λe w' g=>by
    obtain ⟨rfl,rfl⟩:=g;exact m.mi 3 1⟩
  | some a=>exact ⟨(slices_Clone_int_zero a c w).mono λe w' g=>by
    obtain ⟨n,rfl,i,-,d⟩:=g;obtain ⟨p,f⟩:=RC i;exact m.newRow ⟨d.os,d.tape,d.output,d.size,λk f _=>d.block k f⟩ p f⟩
 ·refine ⟨(slices_Clone_int b o (l.map (Value.int .i64)).length c l w (by simp) (by simp;omega) ?_).mono λe w' g=>?_⟩
  ·intro j q;rw [s j (.int .i64 l[j]) (by simp [q])];simp [List.getElem?_eq_getElem q]
  ·obtain ⟨n,rfl,i,-,d⟩:=g;rw [List.take_of_length_le (by simp),List.length_map] at i;obtain ⟨p,f⟩:=RC i;exact m.newRow ⟨d.os,d.tape,d.output,d.size,λk f _=>d.block k f⟩ p f
theorem uI {v:Value}{l:List Bool}(la:l.length<=65536) (h:hy w v (l.map Value.bool)) (d:fa I da w rs) :
  kb prog 165 [v] w (λt w'=>fa I da w' (.row t 4 1 l.length (l.map Value.bool)::rs)):=by
 rcases h with ⟨f,a,c,rfl⟩ | ⟨b,o,c,rfl,G,A⟩
 ·obtain rfl:l=[]:=List.map_eq_nil_iff.1 f;cases a with
  | none=>exact ⟨(aM 0 c w).mono λe w' j=>by
    obtain ⟨rfl,rfl⟩:=j;exact d.mi 4 1⟩
  | some a =>
   refine enter func165 rfl (frm:=[_,_,_,_,_,_,_,_]) rfl ?_;refine ma ?_;refine Nh ?_;refine wl (br db (wa Fb) ?_);refine Yg ?_;refine ag ?_;refine ma ?_;refine ma ?_;refine Nh ?_;refine wl (ui (ba d0) (wa pc) ?_);refine wl (PQ underlying272 (ba d3) (wa Yc) ?_);refine Yg ?_;refine ag ?_;refine ek (ba d4) ?_;refine Ei ?_;refine ag ?_;refine ma ?_;refine Nh ?_;refine wl (AS underlying272 Qm d ?_);clear d;intro Ff H K d;refine pu (wa td) ?_;replace d:=d.Ws (n:=0) (sz:=Ja.sz Bool) d0 rfl (by decide) Ba;refine wl (ui (ba d0) (wa Md) ?_);refine wl (QA (α:=Bool) (l:=[]) (ys:=[]) (news:=[]) underlying272 Qm rfl (ba d5) (ba d6) d d0 (λe=>absurd rfl e) rfl (show app [] []=some [] from rfl) (by decide) ?_);clear d;intro L M B C d;cases (show _=B from C);replace d:=Sep.Be d Ba;refine pu (wa Td) ?_;refine wl (br (ba d7) (wa Fb) ?_);refine Yg ?_;refine ag ?_;refine Pn ?_;refine Hd rfl d2 ?_;exact d
 ·have D:∃ i z,prog.info? 4=some i/\i.zero=some z/\i.size=1/\i.bytes=1/\z.cells.size=1:=by
   obtain ⟨i,z,f,m,p,q,r⟩:=(Qm).inf;exact ⟨i,z,f,m,q,r,by rw [p];rfl⟩
  obtain ⟨i,z,f,m,p,q,r⟩:=D;refine ⟨(cM i z 1 1 f m p q r (by decide) (λw=>(Qm).sizeOf) b o (l.map Value.bool).length c (l.map Value.bool) w (by simp) (by simp [maxLen];omega) (by simp;omega) A (λu E=>?_)).mono λe w' j=>?_⟩
  ·obtain ⟨x,-,rfl⟩:=List.mem_map.1 E;rfl
  ·obtain ⟨t,rfl,y,-,g⟩:=j;rw [List.length_map] at y;obtain ⟨F,s⟩:=RC y;exact d.newRow ⟨g.os,g.tape,g.output,g.size,λk s _=>g.block k s⟩ F s
theorem UK (μ:M) (l:List Value) (x:Bool) (h:Ja.cs μ l x):l=[.bool x]:=h
theorem Kx {α:Type}[Ja α]{f:α->Value}(a:∀ (μ:M) (x:α),Ja.cs μ [f x] x):∀ (l:List α),qa μ (l.map f) l
 | []=>rfl
 | x::l=>⟨[f x],_,rfl,a μ x,Kx a l⟩
end
end Go.Proofs.YtafjdiifkckmbaaGreatDoor
