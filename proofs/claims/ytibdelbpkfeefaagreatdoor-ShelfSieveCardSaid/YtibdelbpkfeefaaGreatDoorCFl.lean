/- Texts of Fl. -/
import Derived.Test.YtibdelbpkfeefaaGreatDoorCXt
import Derived.Test.YtibdelbpkfeefaaGreatDoorProg
import Derived.KernelRfl
import Derived.Shelf.Strconv.Itoa0
import Derived.Shelf.Strconv.Itoa1
import Derived.Shelf.LaysM
import Derived.Shelf.Strconv.Itoa2
import Derived.Shelf.Strconv.Itoa3
import Derived.Shelf.Strconv.ParseIntEmpty
import Derived.Shelf.Strconv.Clone
import Derived.Shelf.Strconv.SyntaxError
import Derived.Shelf.LaysC
import Derived.Shelf.Strconv.ToError
import Derived.Shelf.Strconv.Lower
import Derived.Shelf.Strconv.ParseUint10
import Derived.Shelf.Strconv.ParseUint10Empty
import Derived.Shelf.Strconv.ParseUint10Any
import Derived.Shelf.Strconv.ParseInt10
import Derived.Shelf.Strconv.RangeError
import Derived.Shelf.Strconv.ToErrorRange
import Derived.Shelf.Strconv.ParseUintEmpty
import Derived.Shelf.Strconv.ParseUint10b64
import Derived.Shelf.Strconv.ParseUint10b32
import Derived.Shelf.Strconv.ParseUint10b16
import Derived.Shelf.Strconv.ParseUint10b8
import Derived.Shelf.Strconv.ParseUint10At
import Derived.Shelf.Strconv.ParseInt10At64
import Derived.Shelf.Strconv.ParseInt10At32
import Derived.Shelf.Strconv.ParseInt10At16
import Derived.Shelf.Strconv.ParseInt10At8
import Derived.Shelf.Strconv.ParseInt10All
import Derived.Shelf.Strconv.ParseIntPublic10
import Derived.Shelf.Strings.Search1
import Derived.Shelf.Strings.Search2
import Derived.Shelf.Strings.Search3
import Derived.Shelf.Strings.Shaped
import Derived.Shelf.Strings.Prefix
import Derived.Shelf.Slices.Turned
import Derived.Ground.Names2Prog
import Derived.Shelf.Slices.Clone
import Derived.Shelf.Slices.Delete
import Derived.Shelf.Slices.Cells
import Derived.Shelf.Slices.Empties
import Derived.Ground.SlgnProg
import Derived.Shelf.SlicesE.Clone
import Derived.Test.YtibdelbpkfeefaaGreatDoorCMd
import Derived.Test.YtibdelbpkfeefaaGreatDoorCXu
import Derived.Lib.SlicesS
set_option linter.unusedSimpArgs false
set_option linter.unusedVariables false
set_option linter.unusedSectionVars false
namespace Go.Proofs.YtibdelbpkfeefaaGreatDoor
open Go.bc Go.Xc Tryz
instance WL:wb prog 7:=Kb func7
instance XL:wb prog 9:=Kb func9
instance iu:wb prog 10:=Kb func10
instance LK:wb prog 11:=Kb func11
instance MK:wb prog 13:=Kb func13
instance NK:wb prog 14:=Kb func14
instance OK:wb prog 15:=Kb func15
instance PK:wb prog 16:=Kb func16
instance QK:wb prog 17:=Kb func17
instance SK:wb prog 19:=Kb func19
instance TK:wb prog 20:=Kb func20
instance VG:wb prog 21:=Kb func21
instance UK:wb prog 23:=Kb func23
instance WG:wb prog 24:=Kb func24
instance VK:wb prog 25:=Kb func25
instance FB:wb prog 32:=Kb func32
instance WK:wb prog 34:=Kb func34
instance XG:wb prog 35:=Kb func35
instance XK:wb prog 36:=Kb func36
instance YG:wb prog 37:=Kb func37
instance ZG:wb prog 38:=Kb func38
instance aH:wb prog 39:=Kb func39
instance bH:wb prog 40:=Kb func40
instance GB:wb prog 41:=Kb func41
instance YK:wb prog 42:=Kb func42
instance ZK:wb prog 43:=Kb func43
instance aL:wb prog 44:=Kb func44
instance cH:wb prog 45:=Kb func45
instance Yx:wb prog 46:=Kb func46
instance dH:wb prog 47:=Kb func47
instance Zx:wb prog 48:=Kb func48
instance eH:wb prog 49:=Kb func49
instance bL:wb prog 50:=Kb func50
instance cL:wb prog 51:=Kb func51
instance dL:wb prog 52:=Kb func52
instance eL:wb prog 53:=Kb func53
instance fL:wb prog 54:=Kb func54
instance gL:wb prog 55:=Kb func55
instance hL:wb prog 57:=Kb func57
instance iL:wb prog 58:=Kb func58
instance jL:wb prog 59:=Kb func59
instance kL:wb prog 62:=Kb func62
instance lL:wb prog 63:=Kb func63
instance mL:wb prog 64:=Kb func64
instance HB:wb prog 65:=Kb func65
instance fH:wb prog 66:=Kb func66
instance IB:wb prog 67:=Kb func67
instance JB:wb prog 68:=Kb func68
instance ay:wb prog 69:=Kb func69
instance nL:wb prog 70:=Kb func70
instance oL:wb prog 71:=Kb func71
instance pL:wb prog 72:=Kb func72
instance qL:wb prog 73:=Kb func73
instance rL:wb prog 75:=Kb func75
instance gH:wb prog 76:=Kb func76
instance hH:wb prog 77:=Kb func77
instance sL:wb prog 78:=Kb func78
instance KB:wb prog 79:=Kb func79
instance tL:wb prog 80:=Kb func80
instance uL:wb prog 84:=Kb func84
instance vL:wb prog 85:=Kb func85
instance lq:wb prog 86:=Kb func86
instance wL:wb prog 87:=Kb func87
instance xL:wb prog 88:=Kb func88
instance yL:wb prog 89:=Kb func89
instance zL:wb prog 90:=Kb func90
instance AL:wb prog 91:=Kb func91
instance BL:wb prog 92:=Kb func92
instance iH:wb prog 93:=Kb func93
instance ju:wb prog 94:=Kb func94
instance CL:wb prog 95:=Kb func95
instance DL:wb prog 96:=Kb func96
instance EL:wb prog 97:=Kb func97
instance jH:wb prog 98:=Kb func98
instance FL:wb prog 99:=Kb func99
instance dB:wb prog 100:=Kb func100
instance IF:wb prog 101:=Kb func101
instance JF:wb prog 102:=Kb func102
instance KF:wb prog 103:=Kb func103
instance LF:wb prog 104:=Kb func104
instance LI:wb prog 105:=Kb func105
instance MI:wb prog 106:=Kb func106
instance eB:wb prog 107:=Kb func107
instance MF:wb prog 108:=Kb func108
instance NF:wb prog 109:=Kb func109
instance NI:wb prog 110:=Kb func110
instance OI:wb prog 111:=Kb func111
instance OF:wb prog 112:=Kb func112
instance PI:wb prog 113:=Kb func113
instance QI:wb prog 114:=Kb func114
instance RI:wb prog 115:=Kb func115
instance SI:wb prog 116:=Kb func116
instance TI:wb prog 117:=Kb func117
instance UI:wb prog 118:=Kb func118
instance VI:wb prog 119:=Kb func119
instance fB:wb prog 120:=Kb func120
instance WI:wb prog 126:=Kb func126
instance PF:wb prog 127:=Kb func127
instance QF:wb prog 128:=Kb func128
instance gB:wb prog 129:=Kb func129
instance XI:wb prog 130:=Kb func130
instance YI:wb prog 131:=Kb func131
instance RF:wb prog 132:=Kb func132
instance SF:wb prog 133:=Kb func133
instance ZI:wb prog 134:=Kb func134
instance TF:wb prog 135:=Kb func135
instance UF:wb prog 136:=Kb func136
instance VF:wb prog 137:=Kb func137
instance aJ:wb prog 138:=Kb func138
instance XF:wb prog 139:=Kb func139
instance hB:wb prog 140:=Kb func140
instance iB:wb prog 141:=Kb func141
instance jB:wb prog 142:=Kb func142
instance Cx:wb prog 143:=Kb func143
instance bJ:wb prog 144:=Kb func144
instance cJ:wb prog 145:=Kb func145
instance dJ:wb prog 146:=Kb func146
instance eJ:wb prog 147:=Kb func147
instance kB:wb prog 148:=Kb func148
instance fJ:wb prog 149:=Kb func149
instance gJ:wb prog 150:=Kb func150
instance hJ:wb prog 151:=Kb func151
instance YF:wb prog 158:=Kb func158
instance iJ:wb prog 159:=Kb func159
instance Dx:wb prog 161:=Kb func161
instance ZF:wb prog 162:=Kb func162
instance jJ:wb prog 163:=Kb func163
instance kJ:wb prog 164:=Kb func164
instance lJ:wb prog 165:=Kb func165
instance mJ:wb prog 166:=Kb func166
instance nJ:wb prog 167:=Kb func167
instance oJ:wb prog 168:=Kb func168
instance Ex:wb prog 169:=Kb func169
instance pJ:wb prog 170:=Kb func170
instance qJ:wb prog 173:=Kb func173
instance rJ:wb prog 174:=Kb func174
instance sJ:wb prog 175:=Kb func175
instance lB:wb prog 176:=Kb func176
instance aG:wb prog 177:=Kb func177
instance bG:wb prog 178:=Kb func178
instance tJ:wb prog 184:=Kb func184
instance uJ:wb prog 185:=Kb func185
instance vJ:wb prog 186:=Kb func186
instance Vt:wb prog 187:=Kb func187
instance cG:wb prog 188:=Kb func188
instance wJ:wb prog 197:=Kb func197
instance xJ:wb prog 198:=Kb func198
instance dG:wb prog 223:=Kb func223
instance eG:wb prog 224:=Kb func224
instance fG:wb prog 225:=Kb func225
instance gG:wb prog 226:=Kb func226
instance yJ:wb prog 227:=Kb func227
instance zJ:wb prog 228:=Kb func228
instance AJ:wb prog 229:=Kb func229
instance BJ:wb prog 230:=Kb func230
instance ng:kc prog 2 false [.int .i64 0] 1 8:=Od (z:=.int .i64 0) underlying2
instance Ra:kc prog 3 false [.int .i64 0] 1 8:=Od (z:=.int .i64 0) underlying3
instance qj:kc prog 4 false [.bool false] 1 1:=Od (z:=.bool false) underlying4
instance Ye:kc prog 9 false [S []] 1 16:=Od (z:=S []) underlying9
instance Zm:kc prog 22 false [.slice none 0 0] 1 24:=Od (z:=.slice none 0 0) underlying22
instance tk:kc prog 23 false [.slice none 0 0] 1 24:=Od (z:=.slice none 0 0) underlying23
instance Pk:kc prog 25 true [.slice none 0 0,.slice none 0 0] 2 48:=Od (z:=.agg #[.slice none 0 0,.slice none 0 0]) underlying25
instance ck:kc prog 28 false [.slice none 0 0] 1 24:=Od (z:=.slice none 0 0) underlying28
instance Cq:kc prog 29 false [.slice none 0 0] 1 24:=Od (z:=.slice none 0 0) underlying29
instance hi:kc prog 31 true [.slice none 0 0,.slice none 0 0,.int .i64 0] 3 56:=Od (z:=.agg #[.slice none 0 0,.slice none 0 0,.int .i64 0]) underlying31
instance an:kc prog 32 false [.int .i64 0] 1 8:=Od (z:=.int .i64 0) underlying32
instance ph:kc prog 35 false [.slice none 0 0] 1 24:=Od (z:=.slice none 0 0) underlying35
instance Kl:kc prog 37 true [.int .i64 0,.int .i64 0,.int .i64 0,.slice none 0 0] 4 48:=Od (z:=.agg #[.int .i64 0,.int .i64 0,.int .i64 0,.slice none 0 0]) underlying37
instance Ki:kc prog 39 false [.slice none 0 0] 1 24:=Od (z:=.slice none 0 0) underlying39
instance bn:kc prog 46 false [.slice none 0 0] 1 24:=Od (z:=.slice none 0 0) underlying46
instance hg:kc prog 48 true [.int .i64 0,.int .i64 0] 2 16:=Od (z:=.agg #[.int .i64 0,.int .i64 0]) underlying48
instance Li:kc prog 51 false [.slice none 0 0] 1 24:=Od (z:=.slice none 0 0) underlying51
instance Bj:kc prog 57 false [.pointer none] 1 8:=Od (z:=.pointer none) underlying57
instance xu:kc prog 59 true [.int .i64 0,.int .i64 0] 2 16:=Od (z:=.agg #[.int .i64 0,.int .i64 0]) underlying59
instance Cj:kc prog 61 true [.int .i64 0,.int .i64 0] 2 16:=Od (z:=.agg #[.int .i64 0,.int .i64 0]) underlying61
instance mj:kc prog 66 false [.slice none 0 0] 1 24:=Od (z:=.slice none 0 0) underlying66
instance Dh:kc prog 68 true [.int .i64 0,.int .i64 0,.slice none 0 0,.int .i64 0,.int .i64 0,.slice none 0 0] 6 80:=Od (z:=.agg #[.int .i64 0,.int .i64 0,.slice none 0 0,.int .i64 0,.int .i64 0,.slice none 0 0]) underlying68
instance Ll:kc prog 72 false [.slice none 0 0] 1 24:=Od (z:=.slice none 0 0) underlying72
instance YL:kc prog 77 false [.pointer none] 1 8:=Od (z:=.pointer none) underlying77
instance yI:kc prog 79 true [.slice none 0 0,.int .i64 0,.int .i64 0] 3 40:=Od (z:=.agg #[.slice none 0 0,.int .i64 0,.int .i64 0]) underlying79
instance Vd:kc prog 83 true [.int .i64 0,S []] 2 24:=Od (z:=.agg #[.int .i64 0,S []]) underlying83
instance yu:kc prog 85 false [.slice none 0 0] 1 24:=Od (z:=.slice none 0 0) underlying85
instance Gg:kc prog 87 true [.int .i64 0,S [],.int .i64 0,S [],.int .i64 0,S [],.int .i64 0,.slice none 0 0,.slice none 0 0] 9 128:=Od (z:=.agg #[.int .i64 0,S [],.int .i64 0,S [],.int .i64 0,S [],.int .i64 0,.slice none 0 0,.slice none 0 0]) underlying87
instance Jf:kc prog 103 true [.int .i64 0,.int .i64 0,.int .i64 0] 3 24:=Od (z:=.agg #[.int .i64 0,.int .i64 0,.int .i64 0]) underlying103
instance zn:kc prog 105 false [.slice none 0 0] 1 24:=Od (z:=.slice none 0 0) underlying105
instance Ro:kc prog 107 false [.slice none 0 0] 1 24:=Od (z:=.slice none 0 0) underlying107
instance OH:kc prog 109 true [.slice none 0 0,.slice none 0 0,.int .i64 0] 3 56:=Od (z:=.agg #[.slice none 0 0,.slice none 0 0,.int .i64 0]) underlying109
instance Lk:kc prog 111 true [.int .i64 0,.int .i64 0] 2 16:=Od (z:=.agg #[.int .i64 0,.int .i64 0]) underlying111
instance An:kc prog 112 false [.pointer none] 1 8:=Od (z:=.pointer none) underlying112
instance To:kc prog 115 false [.pointer none] 1 8:=Od (z:=.pointer none) underlying115
instance qq:kc prog 118 false [.nilIface] 1 16:=Od (z:=.nilIface) underlying118
instance Zk:kc prog 119 false [.slice none 0 0] 1 24:=Od (z:=.slice none 0 0) underlying119
instance gi:kc prog 120 false [.pointer none] 1 8:=Od (z:=.pointer none) underlying120
instance PH:kc prog 121 false [.nilFunc] 1 8:=Od (z:=.nilFunc) underlying121
instance QH:kc prog 123 true [.pointer none,.nilIface,.slice none 0 0,.pointer none,.int .i64 0,.int .i64 0,.int .i64 0,.slice none 0 0,.nilFunc] 9 112:=Od (z:=.agg #[.pointer none,.nilIface,.slice none 0 0,.pointer none,.int .i64 0,.int .i64 0,.int .i64 0,.slice none 0 0,.nilFunc]) underlying123
instance Hh:kc prog 126 true [.int .i64 0,.int .i64 0,.int .i64 0] 3 24:=Od (z:=.agg #[.int .i64 0,.int .i64 0,.int .i64 0]) underlying126
instance jj:kc prog 134 true [.int .i64 0,S [],.int .i64 0,.int .i64 0] 4 40:=Od (z:=.agg #[.int .i64 0,S [],.int .i64 0,.int .i64 0]) underlying134
instance RH:kc prog 150 true [.int .i64 0] 1 8:=Od (z:=.agg #[.int .i64 0]) underlying150
instance Iy:kc prog 151 false [.nilFunc] 1 8:=Od (z:=.nilFunc) underlying151
instance Jy:kc prog 152 false [.pointer none] 1 8:=Od (z:=.pointer none) underlying152
instance rq:kc prog 157 true [S [],S [],S []] 3 48:=Od (z:=.agg #[S [],S [],S []]) underlying157
instance sq:kc prog 160 false [.pointer none] 1 8:=Od (z:=.pointer none) underlying160
instance SH:kc prog 162 true [.pointer none] 1 8:=Od (z:=.agg #[.pointer none]) underlying162
instance TH:kc prog 166 true [.slice none 0 0,.int .i64 0,.int .i64 0] 3 40:=Od (z:=.agg #[.slice none 0 0,.int .i64 0,.int .i64 0]) underlying166
instance wi:kc prog 168 false [.slice none 0 0] 1 24:=Od (z:=.slice none 0 0) underlying168
instance Bn:kc prog 169 false [.pointer none] 1 8:=Od (z:=.pointer none) underlying169
instance UH:kc prog 171 true [.int .i64 0,.pointer none,.slice none 0 0,.pointer none] 4 48:=Od (z:=.agg #[.int .i64 0,.pointer none,.slice none 0 0,.pointer none]) underlying171
instance Zi:kc prog 174 true [.int .i64 0,.int .i64 0,.int .i64 0] 3 24:=Od (z:=.agg #[.int .i64 0,.int .i64 0,.int .i64 0]) underlying174
instance Ky:kc prog 185 false [.slice none 0 0] 1 24:=Od (z:=.slice none 0 0) underlying185
instance Pg:kc prog 189 true [S [],S []] 2 32:=Od (z:=.agg #[S [],S []]) underlying189
instance Uo:kc prog 191 false [.pointer none] 1 8:=Od (z:=.pointer none) underlying191
instance Ri:kc prog 192 false [.map none] 1 8:=Od (z:=.map none) underlying192
instance Vo:kc prog 193 false [.map none] 1 8:=Od (z:=.map none) underlying193
instance VH:kc prog 195 true [.map none,.map none,.map none] 3 24:=Od (z:=.agg #[.map none,.map none,.map none]) underlying195
instance Ly:kc prog 203 false [.slice none 0 0] 1 24:=Od (z:=.slice none 0 0) underlying203
instance bg:kc prog 205 true [.int .i64 0,.int .i64 0,S [],.slice none 0 0] 4 56:=Od (z:=.agg #[.int .i64 0,.int .i64 0,S [],.slice none 0 0]) underlying205
instance Ih:kc prog 207 true [.int .i64 0,S [],.int .i64 0,.int .i64 0,S [],.slice none 0 0,.slice none 0 0,.slice none 0 0] 8 128:=Od (z:=.agg #[.int .i64 0,S [],.int .i64 0,.int .i64 0,S [],.slice none 0 0,.slice none 0 0,.slice none 0 0]) underlying207
instance My:kc prog 212 false [.pointer none] 1 8:=Od (z:=.pointer none) underlying212
instance tq:kc prog 217 true [.slice none 0 0,.slice none 0 0,.slice none 0 0] 3 72:=Od (z:=.agg #[.slice none 0 0,.slice none 0 0,.slice none 0 0]) underlying217
instance WH:kc prog 219 false [.pointer none] 1 8:=Od (z:=.pointer none) underlying219
instance gm:kc prog 220 true [.slice none 0 0,.pointer none] 2 32:=Od (z:=.agg #[.slice none 0 0,.pointer none]) underlying220
instance Ny:kc prog 223 false [.pointer none] 1 8:=Od (z:=.pointer none) underlying223
instance Oy:kc prog 227 false [.map none] 1 8:=Od (z:=.map none) underlying227
instance im:kc prog 228 false [.slice none 0 0] 1 24:=Od (z:=.slice none 0 0) underlying228
instance Mj:kc prog 230 true [.slice none 0 0,.slice none 0 0] 2 48:=Od (z:=.agg #[.slice none 0 0,.slice none 0 0]) underlying230
instance XH:kc prog 232 true [.pointer none,.pointer none,.map none,.slice none 0 0,.slice none 0 0,.slice none 0 0,.int .i64 0] 7 104:=Od (z:=.agg #[.pointer none,.pointer none,.map none,.slice none 0 0,.slice none 0 0,.slice none 0 0,.int .i64 0]) underlying232
instance YH:kc prog 240 true [.slice none 0 0,.int .i64 0,.int .i64 0,.int .i64 0] 4 48:=Od (z:=.agg #[.slice none 0 0,.int .i64 0,.int .i64 0,.int .i64 0]) underlying240
instance Cn:kc prog 246 false [.slice none 0 0] 1 24:=Od (z:=.slice none 0 0) underlying246
instance ZH:kc prog 248 true [.pointer none,.int .i64 0,.int .i64 0,.slice none 0 0,.int .i64 0,.int .i64 0,.slice none 0 0,.slice none 0 0] 8 112:=Od (z:=.agg #[.pointer none,.int .i64 0,.int .i64 0,.slice none 0 0,.int .i64 0,.int .i64 0,.slice none 0 0,.slice none 0 0]) underlying248
instance aI:kc prog 264 true [.slice none 0 0,.map none] 2 32:=Od (z:=.agg #[.slice none 0 0,.map none]) underlying264
instance al:kc prog 291 false [.pointer none] 1 8:=Od (z:=.pointer none) underlying291
instance Dn:kc prog 292 false [.map none] 1 8:=Od (z:=.map none) underlying292
instance Il:kc prog 293 false [.slice none 0 0] 1 24:=Od (z:=.slice none 0 0) underlying293
instance bI:kc prog 295 true [.pointer none,.pointer none,.slice none 0 0] 3 40:=Od (z:=.agg #[.pointer none,.pointer none,.slice none 0 0]) underlying295
instance Tm:kc prog 310 true [.map none,.bool false] 2 16:=Od (z:=.agg #[.map none,.bool false]) underlying310
theorem lC:prog.eqGuardType prog.depth 83=false:=by kernel_rfl
theorem mC:prog.stoodInHeld 83=false:=by kernel_rfl
instance CJ:Sc prog 103 0 0:=Uc underlying103 rfl rfl rfl an rfl
instance hG:Sc prog 109 0 0:=Uc underlying109 rfl rfl rfl zn rfl
instance DJ:Sc prog 109 1 1:=Uc underlying109 rfl rfl rfl Ro rfl
instance EJ:Sc prog 109 2 2:=Uc underlying109 rfl rfl rfl Ra rfl
instance FJ:Sc prog 111 0 0:=Uc underlying111 rfl rfl rfl Ra rfl
instance GJ:Sc prog 111 1 1:=Uc underlying111 rfl rfl rfl Ra rfl
instance iG:Sc prog 123 0 0:=Uc underlying123 rfl rfl rfl Bj rfl
instance mB:Sc prog 123 1 1:=Uc underlying123 rfl rfl rfl qq rfl
instance jG:Sc prog 123 2 2:=Uc underlying123 rfl rfl rfl Zk rfl
instance cq:Sc prog 123 3 3:=Uc underlying123 rfl rfl rfl gi rfl
instance kG:Sc prog 123 4 4:=Uc underlying123 rfl rfl rfl Ra rfl
instance HJ:Sc prog 123 5 5:=Uc underlying123 rfl rfl rfl Ra rfl
instance IJ:Sc prog 123 6 6:=Uc underlying123 rfl rfl rfl Ra rfl
instance JJ:Sc prog 123 7 7:=Uc underlying123 rfl rfl rfl ph rfl
instance KJ:Sc prog 123 8 8:=Uc underlying123 rfl rfl rfl PH rfl
instance lG:Sc prog 126 0 0:=Uc underlying126 rfl rfl rfl Ra rfl
instance dq:Sc prog 126 1 1:=Uc underlying126 rfl rfl rfl Ra rfl
instance LJ:Sc prog 126 2 2:=Uc underlying126 rfl rfl rfl ng rfl
instance MJ:Sc prog 134 0 0:=Uc underlying134 rfl rfl rfl Ra rfl
instance NJ:Sc prog 134 1 1:=Uc underlying134 rfl rfl rfl Ye rfl
instance OJ:Sc prog 134 2 2:=Uc underlying134 rfl rfl rfl ng rfl
instance PJ:Sc prog 134 3 3:=Uc underlying134 rfl rfl rfl Ra rfl
instance QJ:Sc prog 150 0 0:=Uc underlying150 rfl rfl rfl Ra rfl
instance RJ:Sc prog 157 1 1:=Uc underlying157 rfl rfl rfl Ye rfl
instance SJ:Sc prog 157 2 2:=Uc underlying157 rfl rfl rfl Ye rfl
instance mG:Sc prog 162 0 0:=Uc underlying162 rfl rfl rfl Bj rfl
instance TJ:Sc prog 166 0 0:=Uc underlying166 rfl rfl rfl ph rfl
instance UJ:Sc prog 166 1 1:=Uc underlying166 rfl rfl rfl Ra rfl
instance VJ:Sc prog 166 2 2:=Uc underlying166 rfl rfl rfl Ra rfl
instance nG:Sc prog 171 0 0:=Uc underlying171 rfl rfl rfl Ra rfl
instance WJ:Sc prog 171 1 1:=Uc underlying171 rfl rfl rfl gi rfl
instance nB:Sc prog 171 2 2:=Uc underlying171 rfl rfl rfl wi rfl
instance XJ:Sc prog 171 3 3:=Uc underlying171 rfl rfl rfl Bn rfl
instance oG:Sc prog 174 0 0:=Uc underlying174 rfl rfl rfl Ra rfl
instance Fx:Sc prog 174 1 1:=Uc underlying174 rfl rfl rfl Ra rfl
instance YJ:Sc prog 174 2 2:=Uc underlying174 rfl rfl rfl Ra rfl
instance ZJ:Sc prog 189 0 0:=Uc underlying189 rfl rfl rfl Ye rfl
instance aK:Sc prog 189 1 1:=Uc underlying189 rfl rfl rfl Ye rfl
instance bK:Sc prog 195 0 0:=Uc underlying195 rfl rfl rfl Ri rfl
instance cK:Sc prog 195 1 1:=Uc underlying195 rfl rfl rfl Ri rfl
instance dK:Sc prog 195 2 2:=Uc underlying195 rfl rfl rfl Vo rfl
instance eK:Sc prog 205 0 0:=Uc underlying205 rfl rfl rfl Ra rfl
instance fK:Sc prog 205 1 1:=Uc underlying205 rfl rfl rfl ng rfl
instance gK:Sc prog 205 2 2:=Uc underlying205 rfl rfl rfl Ye rfl
instance hK:Sc prog 205 3 3:=Uc underlying205 rfl rfl rfl Ly rfl
instance iK:Sc prog 207 0 0:=Uc underlying207 rfl rfl rfl Ra rfl
instance jK:Sc prog 207 1 1:=Uc underlying207 rfl rfl rfl Ye rfl
instance kK:Sc prog 207 2 2:=Uc underlying207 rfl rfl rfl bg rfl
instance lK:Sc prog 207 3 6:=Uc underlying207 rfl rfl rfl yu rfl
instance mK:Sc prog 207 4 7:=Uc underlying207 rfl rfl rfl yu rfl
instance nK:Sc prog 217 0 0:=Uc underlying217 rfl rfl rfl Li rfl
instance oK:Sc prog 217 1 1:=Uc underlying217 rfl rfl rfl Li rfl
instance pK:Sc prog 217 2 2:=Uc underlying217 rfl rfl rfl Li rfl
instance qK:Sc prog 220 0 0:=Uc underlying220 rfl rfl rfl Li rfl
instance rK:Sc prog 220 1 1:=Uc underlying220 rfl rfl rfl WH rfl
instance sK:Sc prog 230 0 0:=Uc underlying230 rfl rfl rfl Ki rfl
instance tK:Sc prog 230 1 1:=Uc underlying230 rfl rfl rfl im rfl
instance uK:Sc prog 232 0 0:=Uc underlying232 rfl rfl rfl sq rfl
instance vK:Sc prog 232 1 1:=Uc underlying232 rfl rfl rfl Ny rfl
instance wK:Sc prog 232 2 2:=Uc underlying232 rfl rfl rfl Oy rfl
instance xK:Sc prog 232 3 3:=Uc underlying232 rfl rfl rfl Ki rfl
instance yK:Sc prog 232 4 4:=Uc underlying232 rfl rfl rfl Mj rfl
instance zK:Sc prog 232 5 6:=Uc underlying232 rfl rfl rfl an rfl
instance pG:Sc prog 240 0 0:=Uc underlying240 rfl rfl rfl ph rfl
instance AK:Sc prog 240 1 1:=Uc underlying240 rfl rfl rfl Ra rfl
instance qG:Sc prog 240 2 2:=Uc underlying240 rfl rfl rfl Ra rfl
instance BK:Sc prog 240 3 3:=Uc underlying240 rfl rfl rfl Ra rfl
instance CK:Sc prog 248 0 0:=Uc underlying248 rfl rfl rfl Uo rfl
instance DK:Sc prog 248 1 1:=Uc underlying248 rfl rfl rfl Dh rfl
instance EK:Sc prog 248 2 7:=Uc underlying248 rfl rfl rfl Cn rfl
instance kH:Sc prog 25 0 0:=Uc underlying25 rfl rfl rfl Zm rfl
instance lH:Sc prog 25 1 1:=Uc underlying25 rfl rfl rfl tk rfl
instance FK:Sc prog 264 1 1:=Uc underlying264 rfl rfl rfl Vo rfl
instance GK:Sc prog 295 0 0:=Uc underlying295 rfl rfl rfl My rfl
instance HK:Sc prog 295 2 2:=Uc underlying295 rfl rfl rfl Il rfl
instance IK:Sc prog 310 0 0:=Uc underlying310 rfl rfl rfl Ri rfl
instance JK:Sc prog 310 1 1:=Uc underlying310 rfl rfl rfl qj rfl
instance GL:Sc prog 31 0 0:=Uc underlying31 rfl rfl rfl ck rfl
instance HL:Sc prog 31 1 1:=Uc underlying31 rfl rfl rfl Cq rfl
instance IL:Sc prog 37 0 0:=Uc underlying37 rfl rfl rfl Ra rfl
instance JL:Sc prog 37 3 3:=Uc underlying37 rfl rfl rfl ph rfl
instance KL:Sc prog 48 0 0:=Uc underlying48 rfl rfl rfl an rfl
instance mH:Sc prog 59 0 0:=Uc underlying59 rfl rfl rfl Ra rfl
instance LL:Sc prog 59 1 1:=Uc underlying59 rfl rfl rfl Ra rfl
instance nH:Sc prog 68 0 0:=Uc underlying68 rfl rfl rfl Ra rfl
instance ku:Sc prog 68 1 1:=Uc underlying68 rfl rfl rfl Ra rfl
instance cy:Sc prog 68 2 2:=Uc underlying68 rfl rfl rfl Ki rfl
instance ML:Sc prog 68 3 3:=Uc underlying68 rfl rfl rfl Ra rfl
instance NL:Sc prog 68 4 4:=Uc underlying68 rfl rfl rfl Ra rfl
instance LB:Sc prog 68 5 5:=Uc underlying68 rfl rfl rfl mj rfl
instance OL:Sc prog 79 0 0:=Uc underlying79 rfl rfl rfl Ll rfl
instance PL:Sc prog 79 2 2:=Uc underlying79 rfl rfl rfl Ra rfl
instance QL:Sc prog 83 0 0:=Uc underlying83 rfl rfl rfl Ra rfl
instance RL:Sc prog 83 1 1:=Uc underlying83 rfl rfl rfl Ye rfl
instance oH:Sc prog 87 0 0:=Uc underlying87 rfl rfl rfl Ra rfl
instance SL:Sc prog 87 1 1:=Uc underlying87 rfl rfl rfl Ye rfl
instance TL:Sc prog 87 2 2:=Uc underlying87 rfl rfl rfl Vd rfl
instance UL:Sc prog 87 4 6:=Uc underlying87 rfl rfl rfl Ra rfl
instance VL:Sc prog 87 6 8:=Uc underlying87 rfl rfl rfl yu rfl
theorem bl:Ig prog 103 #[(0,1),(1,1),(2,1)]:=Yg underlying103 (fun _=>by kernel_rfl)
theorem cI:Ig prog 109 #[(0,1),(1,1),(2,1)]:=Yg underlying109 (fun _=>by kernel_rfl)
theorem dI:Ig prog 111 #[(0,1),(1,1)]:=Yg underlying111 (fun _=>by kernel_rfl)
theorem eI:Ig prog 123 #[(0,1),(1,1),(2,1),(3,1),(4,1),(5,1),(6,1),(7,1),(8,1)]:=Yg underlying123 (fun _=>by kernel_rfl)
theorem fI:Ig prog 126 #[(0,1),(1,1),(2,1)]:=Yg underlying126 (fun _=>by kernel_rfl)
theorem gI:Ig prog 134 #[(0,1),(1,1),(2,1),(3,1)]:=Yg underlying134 (fun _=>by kernel_rfl)
theorem hI:Ig prog 150 #[(0,1)]:=Yg underlying150 (fun _=>by kernel_rfl)
theorem iI:Ig prog 157 #[(0,1),(1,1),(2,1)]:=Yg underlying157 (fun _=>by kernel_rfl)
theorem jI:Ig prog 162 #[(0,1)]:=Yg underlying162 (fun _=>by kernel_rfl)
theorem kI:Ig prog 166 #[(0,1),(1,1),(2,1)]:=Yg underlying166 (fun _=>by kernel_rfl)
theorem lI:Ig prog 171 #[(0,1),(1,1),(2,1),(3,1)]:=Yg underlying171 (fun _=>by kernel_rfl)
theorem YB:Ig prog 174 #[(0,1),(1,1),(2,1)]:=Yg underlying174 (fun _=>by kernel_rfl)
theorem Vh:Ig prog 189 #[(0,1),(1,1)]:=Yg underlying189 (fun _=>by kernel_rfl)
theorem mI:Ig prog 195 #[(0,1),(1,1),(2,1)]:=Yg underlying195 (fun _=>by kernel_rfl)
theorem uq:Ig prog 205 #[(0,1),(1,1),(2,1),(3,1)]:=Yg underlying205 (fun _=>by kernel_rfl)
theorem En:Ig prog 207 #[(0,1),(1,1),(2,4),(6,1),(7,1)]:=Yg underlying207 (fun _=>by kernel_rfl)
theorem ZB:Ig prog 220 #[(0,1),(1,1)]:=Yg underlying220 (fun _=>by kernel_rfl)
theorem aC:Ig prog 230 #[(0,1),(1,1)]:=Yg underlying230 (fun _=>by kernel_rfl)
theorem nI:Ig prog 232 #[(0,1),(1,1),(2,1),(3,1),(4,2),(6,1)]:=Yg underlying232 (fun _=>by kernel_rfl)
theorem oI:Ig prog 240 #[(0,1),(1,1),(2,1),(3,1)]:=Yg underlying240 (fun _=>by kernel_rfl)
theorem pI:Ig prog 248 #[(0,1),(1,6),(7,1)]:=Yg underlying248 (fun _=>by kernel_rfl)
theorem qI:Ig prog 264 #[(0,1),(1,1)]:=Yg underlying264 (fun _=>by kernel_rfl)
theorem rI:Ig prog 295 #[(0,1),(1,1),(2,1)]:=Yg underlying295 (fun _=>by kernel_rfl)
theorem zu:Ig prog 31 #[(0,1),(1,1),(2,1)]:=Yg underlying31 (fun _=>by kernel_rfl)
theorem vq:Ig prog 310 #[(0,1),(1,1)]:=Yg underlying310 (fun _=>by kernel_rfl)
theorem zI:Ig prog 37 #[(0,1),(1,1),(2,1),(3,1)]:=Yg underlying37 (fun _=>by kernel_rfl)
theorem Dq:Ig prog 48 #[(0,1),(1,1)]:=Yg underlying48 (fun _=>by kernel_rfl)
theorem AI:Ig prog 59 #[(0,1),(1,1)]:=Yg underlying59 (fun _=>by kernel_rfl)
theorem Fq:Ig prog 61 #[(0,1),(1,1)]:=Yg underlying61 (fun _=>by kernel_rfl)
theorem BI:Ig prog 68 #[(0,1),(1,1),(2,1),(3,1),(4,1),(5,1)]:=Yg underlying68 (fun _=>by kernel_rfl)
theorem CI:Ig prog 79 #[(0,1),(1,1),(2,1)]:=Yg underlying79 (fun _=>by kernel_rfl)
theorem Au:Ig prog 83 #[(0,1),(1,1)]:=Yg underlying83 (fun _=>by kernel_rfl)
theorem nC:Ig prog 87 #[(0,1),(1,1),(2,2),(4,2),(6,1),(7,1),(8,1)]:=Yg underlying87 (fun _=>by kernel_rfl)
theorem Py:∀ w,(zeroValue 152).run prog w=.ok (.pointer none) w:=pq (by kernel_rfl)
theorem bC:∀ w,(zeroValue 217).run prog w=.ok (.agg #[.slice none 0 0,.slice none 0 0,.slice none 0 0]) w:=pq (by kernel_rfl)
theorem Qy:∀ w,(zeroValue 230).run prog w=.ok (.agg #[.slice none 0 0,.slice none 0 0]) w:=pq (by kernel_rfl)
theorem Fu:∀ w,(zeroValue 3).run prog w=.ok (.int .i64 0) w:=pq (by kernel_rfl)
theorem DI:∀ w,(zeroValue 83).run prog w=.ok (.agg #[.int .i64 0,S []]) w:=pq (by kernel_rfl)
end Go.Proofs.YtibdelbpkfeefaaGreatDoor
namespace Go.Proofs
open Go.Shelf
def Tryz.HC:Go.Shelf.Ren:=⟨fun | 174=>49 | 247=>82 | 245=>83 | 287=>121 | 279=>122 | 280=>123 | 281=>124 | 282=>125 | 321=>152 | 322=>153 | 316=>154 | 171=>156 | 205=>155 | 243=>171 | 246=>179 | 283=>189 | 284=>190 | 285=>191 | 286=>192 | 129=>202 | 317=>201 | 318=>203 | 319=>204 | 320=>205 | 337=>206 | 338=>207 | n=>n,fun | 9=>9 | 3=>3 | 2=>2 | 75=>138 | 85=>139 | 4=>4 | 167=>252 | 5=>5 | 53=>253 | 175=>254 | 46=>256 | 168=>257 | 37=>281 | 0=>0 | 210=>283 | 21=>21 | 127=>303 | 145=>306 | 143=>304 | 171=>322 | 173=>325 | 212=>336 | 51=>327 | 20=>20 | 213=>337 | 232=>340 | 233=>341 | 80=>142 | n=>n,fun | 15=>0 | 16=>1 | 17=>3 | 18=>4 | 19=>5 | n=>n⟩
theorem Tryz.VE:Go.Proofs.LaysC.n174 Tryz.prog Tryz.HC:={
 mixed:=by kernel_rfl
 f129:=Tryz.func202.trans (congrArg some (by kernel_rfl))
 f171:=Tryz.func156.trans (congrArg some (by kernel_rfl))
 f174:=Tryz.func49.trans (congrArg some (by kernel_rfl))
 f205:=Tryz.func155.trans (congrArg some (by kernel_rfl))
 f243:=Tryz.func171.trans (congrArg some (by kernel_rfl))
 f245:=Tryz.func83.trans (congrArg some (by kernel_rfl))
 f246:=Tryz.func179.trans (congrArg some (by kernel_rfl))
 f247:=Tryz.func82.trans (congrArg some (by kernel_rfl))
 f279:=Tryz.func122.trans (congrArg some (by kernel_rfl))
 f280:=Tryz.func123.trans (congrArg some (by kernel_rfl))
 f281:=Tryz.func124.trans (congrArg some (by kernel_rfl))
 f282:=Tryz.func125.trans (congrArg some (by kernel_rfl))
 f283:=Tryz.func189.trans (congrArg some (by kernel_rfl))
 f284:=Tryz.func190.trans (congrArg some (by kernel_rfl))
 f285:=Tryz.func191.trans (congrArg some (by kernel_rfl))
 f286:=Tryz.func192.trans (congrArg some (by kernel_rfl))
 f287:=Tryz.func121.trans (congrArg some (by kernel_rfl))
 f316:=Tryz.func154.trans (congrArg some (by kernel_rfl))
 f317:=Tryz.func201.trans (congrArg some (by kernel_rfl))
 f318:=Tryz.func203.trans (congrArg some (by kernel_rfl))
 f319:=Tryz.func204.trans (congrArg some (by kernel_rfl))
 f320:=Tryz.func205.trans (congrArg some (by kernel_rfl))
 f321:=Tryz.func152.trans (congrArg some (by kernel_rfl))
 f322:=Tryz.func153.trans (congrArg some (by kernel_rfl))
 f337:=Tryz.func206.trans (congrArg some (by kernel_rfl))
 f338:=Tryz.func207.trans (congrArg some (by kernel_rfl))
 t0:=Tryz.underlying0
 a0:=Tryz.isAgg0
 z0:=Tryz.sizeOf0
 v0:=Tryz.zeroValue0
 t2:=Tryz.underlying2
 a2:=Tryz.isAgg2
 z2:=Tryz.sizeOf2
 v2:=Tryz.zeroValue2
 t3:=Tryz.underlying3
 a3:=Tryz.isAgg3
 z3:=Tryz.sizeOf3
 v3:=Tryz.zeroValue3
 t4:=Tryz.underlying4
 a4:=Tryz.isAgg4
 z4:=Tryz.sizeOf4
 v4:=Tryz.zeroValue4
 t5:=Tryz.underlying5
 a5:=Tryz.isAgg5
 z5:=Tryz.sizeOf5
 v5:=Tryz.zeroValue5
 t9:=Tryz.underlying9
 a9:=Tryz.isAgg9
 z9:=Tryz.sizeOf9
 v9:=Tryz.zeroValue9
 t20:=Tryz.underlying20
 a20:=Tryz.isAgg20
 z20:=Tryz.sizeOf20
 v20:=Tryz.zeroValue20
 t21:=Tryz.underlying21
 a21:=Tryz.isAgg21
 z21:=Tryz.sizeOf21
 v21:=Tryz.zeroValue21
 t37:=Tryz.underlying281
 a37:=Tryz.isAgg281
 z37:=Tryz.sizeOf281
 v37:=Tryz.zeroValue281
 t46:=Tryz.underlying256
 a46:=Tryz.isAgg256
 z46:=Tryz.sizeOf256
 v46:=Tryz.zeroValue256
 t51:=Tryz.underlying327
 a51:=Tryz.isAgg327
 z51:=Tryz.sizeOf327
 v51:=Tryz.zeroValue327
 t53:=Tryz.underlying253
 a53:=Tryz.isAgg253
 z53:=Tryz.sizeOf253
 v53:=Tryz.zeroValue253
 t75:=Tryz.underlying138
 a75:=Tryz.isAgg138
 z75:=Tryz.sizeOf138
 v75:=Tryz.zeroValue138
 t85:=Tryz.underlying139
 a85:=Tryz.isAgg139
 z85:=Tryz.sizeOf139
 v85:=Tryz.zeroValue139
 t127:=Tryz.underlying303
 a127:=Tryz.isAgg303
 z127:=Tryz.sizeOf303
 v127:=Tryz.zeroValue303
 t143:=Tryz.underlying304
 a143:=Tryz.isAgg304
 z143:=Tryz.sizeOf304
 v143:=Tryz.zeroValue304
 t145:=Tryz.underlying306
 a145:=Tryz.isAgg306
 z145:=Tryz.sizeOf306
 v145:=Tryz.zeroValue306
 t167:=Tryz.underlying252
 a167:=Tryz.isAgg252
 z167:=Tryz.sizeOf252
 v167:=Tryz.zeroValue252
 t168:=Tryz.underlying257
 a168:=Tryz.isAgg257
 z168:=Tryz.sizeOf257
 v168:=Tryz.zeroValue257
 t171:=Tryz.underlying322
 a171:=Tryz.isAgg322
 z171:=Tryz.sizeOf322
 v171:=Tryz.zeroValue322
 t173:=Tryz.underlying325
 a173:=Tryz.isAgg325
 z173:=Tryz.sizeOf325
 v173:=Tryz.zeroValue325
 t175:=Tryz.underlying254
 a175:=Tryz.isAgg254
 z175:=Tryz.sizeOf254
 v175:=Tryz.zeroValue254
 t210:=Tryz.underlying283
 a210:=Tryz.isAgg283
 z210:=Tryz.sizeOf283
 v210:=Tryz.zeroValue283
 t212:=Tryz.underlying336
 a212:=Tryz.isAgg336
 z212:=Tryz.sizeOf336
 v212:=Tryz.zeroValue336
 t213:=Tryz.underlying337
 a213:=Tryz.isAgg337
 z213:=Tryz.sizeOf337
 t232:=Tryz.underlying340
 a232:=Tryz.isAgg340
 z232:=Tryz.sizeOf340
 v232:=Tryz.zeroValue340
 t233:=Tryz.underlying341
 a233:=Tryz.isAgg341
 z233:=Tryz.sizeOf341
 v233:=Tryz.zeroValue341
 g15:=by kernel_rfl
 g16:=by kernel_rfl
 g17:=by kernel_rfl
 g18:=by kernel_rfl
 g19:=by kernel_rfl
 t80:=Tryz.underlying142
 a80:=Tryz.isAgg142
 z80:=Tryz.sizeOf142
 v80:=Tryz.zeroValue142
 i0:=by kernel_rfl
 i2:=by kernel_rfl
 i3:=by kernel_rfl
 i4:=by kernel_rfl
 i5:=by kernel_rfl
 i9:=by kernel_rfl
 i20:=by kernel_rfl
 i21:=by kernel_rfl
 i37:=by kernel_rfl
 i46:=by kernel_rfl
 i51:=by kernel_rfl
 i53:=by kernel_rfl
 i75:=by kernel_rfl
 i80:=by kernel_rfl
 i85:=by kernel_rfl
 i127:=by kernel_rfl
 i143:=by kernel_rfl
 i145:=by kernel_rfl
 i167:=by kernel_rfl
 i168:=by kernel_rfl
 i171:=by kernel_rfl
 i173:=by kernel_rfl
 i175:=by kernel_rfl
 i210:=by kernel_rfl
 i212:=by kernel_rfl
 i232:=by kernel_rfl
 i233:=by kernel_rfl
 m15:=by kernel_rfl
 m16:=by kernel_rfl
 m17:=by kernel_rfl
 m18:=by kernel_rfl
 m19:=by kernel_rfl
 c0:=by kernel_rfl
 c2:=by kernel_rfl
 c3:=by kernel_rfl
 c4:=by kernel_rfl
 c5:=by kernel_rfl
 c9:=by kernel_rfl
 c20:=by kernel_rfl
 c21:=by kernel_rfl
 c37:=by kernel_rfl
 c46:=by kernel_rfl
 c51:=by kernel_rfl
 c53:=by kernel_rfl
 c75:=by kernel_rfl
 c80:=by kernel_rfl
 c85:=by kernel_rfl
 c127:=by kernel_rfl
 c143:=by kernel_rfl
 c145:=by kernel_rfl
 c167:=by kernel_rfl
 c168:=by kernel_rfl
 c171:=by kernel_rfl
 c173:=by kernel_rfl
 c175:=by kernel_rfl
 c210:=by kernel_rfl
 c212:=by kernel_rfl
 c213:=by kernel_rfl
 c232:=by kernel_rfl
 c233:=by kernel_rfl }
open Go.RowKit in
theorem Tryz.strconv_ParseInt_10_at64_ok (s:ByteArray) (a:s.size≤9223372036854775806) (v:Int) (h:Lib.parseIntB 64 s.data.toList=.ok v) (w:World) :
  Calls Tryz.prog 49 #[.string s,.int .i64 10,.int .i64 64] w fun e w'=>e=.returned (.tuple #[.int .i64 v,.nilIface])∧(w'=w∨∃ t,w'=Lib.bytesWorld w 5 t):=Any.strconv_ParseInt_10_at64_ok Tryz.VE s a v h w
def Tryz.WC:Go.Shelf.Ren:=⟨fun | 144=>127 | 143=>157 | 219=>172 | 217=>180 | 225=>181 | 224=>182 | 267=>183 | 266=>193 | 314=>194 | n=>n,fun | 9=>9 | 4=>4 | 3=>3 | 5=>5 | 46=>256 | 146=>328 | 51=>327 | n=>n,fun | 1=>2 | n=>n⟩
theorem Tryz.rG:Go.Proofs.Lays.n144 Tryz.prog Tryz.WC:={
 mixed:=by kernel_rfl
 f143:=Tryz.func157.trans (congrArg some (by kernel_rfl))
 f144:=Tryz.func127.trans (congrArg some (by kernel_rfl))
 f217:=Tryz.func180.trans (congrArg some (by kernel_rfl))
 f219:=Tryz.func172.trans (congrArg some (by kernel_rfl))
 f224:=Tryz.func182.trans (congrArg some (by kernel_rfl))
 f225:=Tryz.func181.trans (congrArg some (by kernel_rfl))
 f266:=Tryz.func193.trans (congrArg some (by kernel_rfl))
 f267:=Tryz.func183.trans (congrArg some (by kernel_rfl))
 f314:=Tryz.func194.trans (congrArg some (by kernel_rfl))
 t3:=Tryz.underlying3
 a3:=Tryz.isAgg3
 z3:=Tryz.sizeOf3
 v3:=Tryz.zeroValue3
 t4:=Tryz.underlying4
 a4:=Tryz.isAgg4
 z4:=Tryz.sizeOf4
 v4:=Tryz.zeroValue4
 t5:=Tryz.underlying5
 a5:=Tryz.isAgg5
 z5:=Tryz.sizeOf5
 v5:=Tryz.zeroValue5
 t9:=Tryz.underlying9
 a9:=Tryz.isAgg9
 z9:=Tryz.sizeOf9
 v9:=Tryz.zeroValue9
 t46:=Tryz.underlying256
 a46:=Tryz.isAgg256
 z46:=Tryz.sizeOf256
 v46:=Tryz.zeroValue256
 t51:=Tryz.underlying327
 a51:=Tryz.isAgg327
 z51:=Tryz.sizeOf327
 v51:=Tryz.zeroValue327
 t146:=Tryz.underlying328
 a146:=Tryz.isAgg328
 z146:=Tryz.sizeOf328
 v146:=Tryz.zeroValue328
 g1:=by kernel_rfl }
open Go.RowKit Go.Lib in
theorem Tryz.strings_Contains (s sub:ByteArray) (m:Int) (w:World) (a:s.size<4294967281) (hm:w.cell? ⟨2,0,none⟩=some (.int .i64 m)) :
  Calls Tryz.prog 127 #[.string s,.string sub] w fun e w'=>e=.returned (.bool (Lib.contains s.data.toList sub.data.toList))∧w'=w:=Any.strings_Contains Tryz.rG s sub m w a hm
def Tryz.XC:Go.Shelf.Ren:=⟨fun | 107=>41 | 108=>74 | n=>n,fun | 28=>39 | 3=>3 | 4=>4 | 0=>0 | n=>n,fun | n=>n⟩
theorem Tryz.oB:Go.Proofs.Lays.n107 Tryz.prog Tryz.XC:={
 mixed:=by kernel_rfl
 f107:=Tryz.func41.trans (congrArg some (by kernel_rfl))
 f108:=Tryz.func74.trans (congrArg some (by kernel_rfl))
 t0:=Tryz.underlying0
 a0:=Tryz.isAgg0
 z0:=Tryz.sizeOf0
 v0:=Tryz.zeroValue0
 t3:=Tryz.underlying3
 a3:=Tryz.isAgg3
 z3:=Tryz.sizeOf3
 v3:=Tryz.zeroValue3
 t4:=Tryz.underlying4
 a4:=Tryz.isAgg4
 z4:=Tryz.sizeOf4
 v4:=Tryz.zeroValue4
 t28:=Tryz.underlying39
 a28:=Tryz.isAgg39
 z28:=Tryz.sizeOf39
 v28:=Tryz.zeroValue39 }
open Go.Lib in
theorem Tryz.slices_Contains_int (b off n c:Nat) (a:List Int) (x:Int) (w:World) (d:n≤a.length) (f:n≤9223372036854775807) (hc:∀ j,j<a.length→w.cell? ⟨b,off+j,none⟩=some (.int .i64 (a.getD j 0))) :
  Calls Tryz.prog 41 #[.slice (some ⟨b,off,none⟩) n c,.int .i64 x] w fun e w'=>e=.returned (.bool ((a.take n).contains x))∧w'=w:=Any.slices_Contains_int Tryz.oB b off n c a x w d f hc
open Go.Lib in
theorem Tryz.slices_Contains_int_empty (a:Option Addr) (c:Nat) (x:Int) (w:World) :
  Calls Tryz.prog 41 #[.slice a 0 c,.int .i64 x] w fun e w'=>e=.returned (.bool false)∧w'=w:=Any.slices_Contains_int_empty Tryz.oB a c x w
def Tryz.YC:Go.Shelf.Ren:=⟨fun | 110=>32 | 109=>61 | n=>n,fun | 31=>51 | 9=>9 | 4=>4 | 3=>3 | 0=>0 | n=>n,fun | n=>n⟩
theorem Tryz.pB:Go.Proofs.Lays.n110 Tryz.prog Tryz.YC:={
 mixed:=by kernel_rfl
 f109:=Tryz.func61.trans (congrArg some (by kernel_rfl))
 f110:=Tryz.func32.trans (congrArg some (by kernel_rfl))
 t0:=Tryz.underlying0
 a0:=Tryz.isAgg0
 z0:=Tryz.sizeOf0
 v0:=Tryz.zeroValue0
 t3:=Tryz.underlying3
 a3:=Tryz.isAgg3
 z3:=Tryz.sizeOf3
 v3:=Tryz.zeroValue3
 t4:=Tryz.underlying4
 a4:=Tryz.isAgg4
 z4:=Tryz.sizeOf4
 v4:=Tryz.zeroValue4
 t9:=Tryz.underlying9
 a9:=Tryz.isAgg9
 z9:=Tryz.sizeOf9
 v9:=Tryz.zeroValue9
 t31:=Tryz.underlying51
 a31:=Tryz.isAgg51
 z31:=Tryz.sizeOf51
 v31:=Tryz.zeroValue51 }
open Go.Lib in
theorem Tryz.slices_Contains_string (b off n c:Nat) (a:List ByteArray) (x:ByteArray) (w:World) (d:n≤a.length) (f:n≤9223372036854775807) (hc:∀ j,j<a.length→w.cell? ⟨b,off+j,none⟩=some (.string (a.getD j ByteArray.empty))) :
  Calls Tryz.prog 32 #[.slice (some ⟨b,off,none⟩) n c,.string x] w fun e w'=>e=.returned (.bool (Lib.containsS (a.take n) x))∧w'=w:=Any.slices_Contains_string Tryz.pB b off n c a x w d f hc
open Go.Lib in
theorem Tryz.slices_Contains_string_empty (a:Option Addr) (c:Nat) (x:ByteArray) (w:World) :
  Calls Tryz.prog 32 #[.slice a 0 c,.string x] w fun e w'=>e=.returned (.bool false)∧w'=w:=Any.slices_Contains_string_empty Tryz.pB a c x w
def Tryz.CC:Go.Shelf.Ren:=⟨fun | 15=>140 | n=>n,fun | 22=>39 | 3=>3 | 4=>4 | n=>n,fun | n=>n⟩
theorem Tryz.ow:Go.Proofs.Lays2.n15 Tryz.prog Tryz.CC:={
 mixed:=by kernel_rfl
 f15:=Tryz.func140.trans (congrArg some (by kernel_rfl))
 t3:=Tryz.underlying3
 a3:=Tryz.isAgg3
 z3:=Tryz.sizeOf3
 v3:=Tryz.zeroValue3
 t4:=Tryz.underlying4
 a4:=Tryz.isAgg4
 z4:=Tryz.sizeOf4
 v4:=Tryz.zeroValue4
 t22:=Tryz.underlying39
 a22:=Tryz.isAgg39
 z22:=Tryz.sizeOf39
 v22:=Tryz.zeroValue39
 i3:=by kernel_rfl }
open Go.RowKit Go.Lib in
theorem Tryz.slices_Clone_int (b off n c:Nat) (a:List Int) (w:World) (f:n≤a.length) (g:n*8≤140737488355328) (hc:∀ j,j<a.length→w.cell? ⟨b,off+j,none⟩=some (.int .i64 (a.getD j 0))) :
  Calls Tryz.prog 140 #[.slice (some ⟨b,off,none⟩) n c] w fun e w'=>∃ d,e=.returned d∧w'.ownsRow w.heap.size 3 1 d n ((a.take n).map (Value.int .i64))∧d≠.slice none 0 0∧Below w.heap.size w w':=Any.slices_Clone_int Tryz.ow b off n c a w f g hc
open Go.RowKit Go.Lib in
theorem Tryz.slices_Clone_int_nil (n c:Nat) (w:World) :
  Calls Tryz.prog 140 #[.slice none n c] w fun e w'=>e=.returned (.slice none 0 0)∧w'=w:=Any.slices_Clone_int_nil Tryz.ow n c w
open Go.RowKit Go.Lib in
theorem Tryz.slices_Clone_int_zero (a:Addr) (c:Nat) (w:World) :
  Calls Tryz.prog 140 #[.slice (some a) 0 c] w fun e w'=>∃ b,e=.returned b∧w'.ownsRow w.heap.size 3 1 b 0 []∧b≠.slice none 0 0∧Below w.heap.size w w':=Any.slices_Clone_int_zero Tryz.ow a c w
def Tryz.vC:Go.Shelf.Ren:=⟨fun | 41=>141 | n=>n,fun | 22=>228 | 23=>4 | 4=>4 | n=>n,fun | n=>n⟩
theorem Tryz.uz:Go.Proofs.SlLaysE0.n41 Tryz.prog Tryz.vC:={
 mixed:=by kernel_rfl
 f41:=⟨Tryz.f141.name,by decide,Tryz.func141.trans (congrArg some (by kernel_rfl))⟩
 t4:=Tryz.underlying4
 a4:=Tryz.isAgg4
 z4:=Tryz.sizeOf4
 v4:=Tryz.zeroValue4
 t22:=Tryz.underlying228
 a22:=Tryz.isAgg228
 z22:=Tryz.sizeOf228
 v22:=Tryz.zeroValue228 }
open Go.RowKit Go.Lib in
theorem Tryz.xC (i0:TypeInfo) (z:Value) (size bytes:Nat) (d:Tryz.prog.info? 4=some i0) (f:i0.zero=some z) (g:i0.size=size) (h:i0.bytes=bytes) (i:z.cells.size=size) (k:0<size) (z23:∀ w,(Go.sizeOf 4).run Tryz.prog w=.ok size w) (b off n c:Nat) (news:List Value) (w:World) (l:news.length=n*size) (m:n≤maxLen) (o:n*bytes≤140737488355328) (hc:∀ j u,news[j]?=some u→w.cell? ⟨b,off+j,none⟩=some u) (p:∀ u ∈ news,u.oneCell'=true) :
  Calls Tryz.prog 141 #[.slice (some ⟨b,off,none⟩) n c] w fun e w'=>∃ a,e=.returned a∧w'.ownsRow w.heap.size 4 size a n news∧a≠.slice none 0 0∧Below w.heap.size w w':=AnyE.slices_Clone Tryz.uz i0 z size bytes d f g h i k z23 b off n c news w l m o hc p
open Go.RowKit Go.Lib in
theorem Tryz.uC (n c:Nat) (w:World) :
  Calls Tryz.prog 141 #[.slice none n c] w fun e w'=>e=.returned (.slice none 0 0)∧w'=w:=AnyE.slices_Clone_nil Tryz.uz n c w
end Go.Proofs
namespace Go.Proofs.YtibdelbpkfeefaaGreatDoor
open Go.bc Go.Xc Go.Y Tryz
def sb:M:=fun w=>∃ m,w.cell? ⟨2,0,none⟩=some (.int .i64 m)
theorem pH {E:M}{w0 w:World}{J:List jb}{l:List UInt8}{r:Int}(g:Yy l=some r) (b:ka E w0 w J) :
  nb prog 49 [S l,.int .i64 10,.int .i64 64] w (fun v w'=>v=.tuple ⟨[.int .i64 r,.nilIface]⟩∧ka E w0 w' J):=by
 unfold Yy at g;split at g
 ·rename_i c;cases a:Lib.parseIntB 64 l with
  | ok v =>
   rw [a] at g;obtain rfl:=Option.some.inj g;refine ⟨(strconv_ParseInt_10_at64_ok ⟨⟨l⟩⟩ c v a w).mono fun e w' he=>?_⟩;obtain ⟨rfl,hw⟩:=he;refine ⟨rfl,?_⟩;rcases hw with rfl | ⟨t,rfl⟩
   ·exact b
   ·have h:=Lib.bytesWorld_below w 5 t;exact b.grow ⟨h.os,h.tape,h.output,h.size,fun k d _=>h.block k d⟩
  | _=>rw [a] at g; cases g
 ·cases g
theorem sG {E:M}{w0 w:World}{J:List jb}{l sub:List UInt8}{b:Bool}(d:da sb E) (g:ky l sub=some b) (c:ka E w0 w J) :
  nb prog 127 [S l,S sub] w (fun v w'=>v=.bool b∧ka E w0 w' J):=by
 unfold ky at g;split at g
 ·rename_i f;obtain rfl:=Option.some.inj g;obtain ⟨m,hm⟩:=d w c.a;refine ⟨(strings_Contains ⟨⟨l⟩⟩ ⟨⟨sub⟩⟩ m w f hm).mono fun e w' he=>?_⟩;obtain ⟨rfl,rfl⟩:=he;exact ⟨rfl,c⟩
 ·cases g
end Go.Proofs.YtibdelbpkfeefaaGreatDoor
namespace Go.Proofs.YtibdelbpkfeefaaGreatDoor
open Go.bc Go.Xc Go.Y Go.RowKit Tryz
section
variable {μ E:M}{w0 w:World}{J rs:List jb}
def Ko (w:World) (v:Value) (vs:List Value):Prop:=(vs=[]∧∃ a c,v=.slice a 0 c)∨∃ b o c,v=.slice (some ⟨b,o,none⟩) vs.length c∧vs.length≤9223372036854775807∧∀ j y,vs[j]?=some y→w.cell? ⟨b,o+j,none⟩=some y
theorem JA {α:Type}[Va α]{f:α→Value}(a:∀ (μ:M) (l:List Value) (x:α),Va.cs μ l x→l=[f x]):∀ {l:List α}{cells:List Value},na μ cells l→cells=l.map f
 | [],cells,h=>by rw [na] at h; simp [h]
 | x::l,cells,h=>by
  rw [na] at h;obtain ⟨cs,t,rfl,b,c⟩:=h;rw [a _ _ _ b,JA a c];rfl
theorem Np {α:Type}[Va α]{f:α→Value}(c:∀ (μ:M) (l:List Value) (x:α),Va.cs μ l x→l=[f x]){v:Value}{T:TypeId}{l:List α}{cells:List Value}(h:Row w v T 1 l.length cells) (d:na μ cells l):Ko w v (l.map f):=by
 have e:=JA c d;subst e;rcases h.2 with ⟨rfl,b⟩ | ⟨g,o,cap,cur,rfl,i,k,b,n,m⟩
 ·exact .inl ⟨by rw [List.length_eq_zero_iff.1 b];rfl,none,0,rfl⟩
 ·refine .inr ⟨g,o,cap,by simp,by simp;exact Nat.le_trans k (Nat.le_trans b (by decide)),fun j y a=>?_⟩;rw [cell_of_row w g (o+j) cur T (0,0) i];rw [← m,List.getElem?_take] at a;split at a
  ·rw [List.getElem?_drop] at a;simpa using a
  ·cases a
theorem ax {α:Type}[Va α]{f:α→Value}(g:∀ (μ:M) (l:List Value) (x:α),Va.cs μ l x→l=[f x]) (i:Va.sz α=1){a:Option Addr}{c:Nat}{l:List α}(h:Ca μ a c l) (hw:μ w):Ko w (.slice a l.length c) (l.map f):=by
 rcases h.el with rfl | ⟨b,o,rfl,p,k⟩
 ·exact .inl ⟨rfl,a,c,rfl⟩
 ·refine .inr ⟨b,o,c,by simp,by simp;exact Ca.len h,fun j y d=>?_⟩;simp only [List.getElem?_map,Option.map_eq_some_iff] at d;obtain ⟨x,m,rfl⟩:=d;obtain ⟨e,n⟩:=k j x m;rw [g _ _ _ n,i] at e;have:=e w hw 0 _ rfl;simpa using this
theorem oC (μ:M) (l:List Value) (x:List UInt8) (h:Va.cs μ l x):l=[S x]:=h
theorem Bu (μ:M) (l:List Value) (x:Int) (h:Va.cs μ l x):l=[.int .i64 x]:=h
theorem xz {v:Value}{l:List (List UInt8)}{x:List UInt8}(h:Ko w v (l.map S)):nb prog 32 [v,S x] w (fun v w'=>v=.bool (l.contains x)∧w'=w):=by
 rcases h with ⟨f,a,c,rfl⟩ | ⟨b,o,c,rfl,g,hc⟩
 ·obtain rfl:l=[]:=List.map_eq_nil_iff.1 f;exact ⟨(slices_Contains_string_empty a c ⟨⟨x⟩⟩ w).mono fun e w' he=>by
   obtain ⟨rfl,rfl⟩:=he;exact ⟨rfl,rfl⟩⟩
 ·refine ⟨(slices_Contains_string b o (l.map S).length c (l.map fun y=>⟨⟨y⟩⟩) ⟨⟨x⟩⟩ w (by simp) g ?_).mono fun e w' he=>?_⟩
  ·intro j i;have d:j<l.length:=by simpa using i
   rw [hc j (S l[j]) (by simp [d])];simp [List.getElem?_eq_getElem d,S]
  ·obtain ⟨rfl,rfl⟩:=he;refine ⟨?_,rfl⟩;congr 1;rw [List.take_of_length_le (by simp),Bool.eq_iff_iff,Lib.containsS_iff,List.contains_iff_mem];constructor
   ·intro hm;obtain ⟨y,m,e⟩:=List.mem_map.1 hm;have k:y=x:=congrArg (fun b:ByteArray=>b.data.toList) e;rwa [← k]
   ·exact fun hm=>List.mem_map.2 ⟨x,hm,rfl⟩
theorem yz {v:Value}{l:List Int}{x:Int}(h:Ko w v (l.map (Value.int .i64))):nb prog 41 [v,.int .i64 x] w (fun v w'=>v=.bool (l.contains x)∧w'=w):=by
 rcases h with ⟨f,a,c,rfl⟩ | ⟨b,o,c,rfl,g,hc⟩
 ·obtain rfl:l=[]:=List.map_eq_nil_iff.1 f;exact ⟨(slices_Contains_int_empty a c x w).mono fun e w' he=>by
   obtain ⟨rfl,rfl⟩:=he;exact ⟨rfl,rfl⟩⟩
 ·refine ⟨(slices_Contains_int b o (l.map (Value.int .i64)).length c l x w (by simp) g ?_).mono fun e w' he=>?_⟩
  ·intro j d;rw [hc j (.int .i64 l[j]) (by simp [d])];simp [List.getElem?_eq_getElem d]
  ·obtain ⟨rfl,rfl⟩:=he;refine ⟨?_,rfl⟩;rw [List.take_of_length_le (by simp)]
theorem pA {v:Value}{l:List Int}(r:l.length≤65536) (h:Ko w v (l.map (Value.int .i64))) (i:ka E w0 w rs) :
  nb prog 140 [v] w (fun m w'=>ka E w0 w' (.row m 3 1 l.length (l.map (Value.int .i64))::rs)):=by
 rcases h with ⟨q,a,c,rfl⟩ | ⟨b,o,c,rfl,s,hc⟩
 ·obtain rfl:l=[]:=List.map_eq_nil_iff.1 q;cases a with
  | none=>exact ⟨(slices_Clone_int_nil 0 c w).mono fun e w' he=>by
    obtain ⟨rfl,rfl⟩:=he;exact i.yh 3 1⟩
  | some a=>exact ⟨(slices_Clone_int_zero a c w).mono fun e w' he=>by
    obtain ⟨m,rfl,g,-,d⟩:=he;obtain ⟨n,f⟩:=cv g;exact i.newRow ⟨d.os,d.tape,d.output,d.size,fun k f _=>d.block k f⟩ n f⟩
 ·refine ⟨(slices_Clone_int b o (l.map (Value.int .i64)).length c l w (by simp) (by simp;omega) ?_).mono fun e w' he=>?_⟩
  ·intro j p;rw [hc j (.int .i64 l[j]) (by simp [p])];simp [List.getElem?_eq_getElem p]
  ·obtain ⟨m,rfl,g,-,d⟩:=he;rw [List.take_of_length_le (by simp),List.length_map] at g;obtain ⟨n,f⟩:=cv g;exact i.newRow ⟨d.os,d.tape,d.output,d.size,fun k f _=>d.block k f⟩ n f
theorem qA {v:Value}{l:List Bool}(D:l.length≤65536) (h:Ko w v (l.map Value.bool)) (d:ka E w0 w rs) :
  nb prog 141 [v] w (fun s w'=>ka E w0 w' (.row s 4 1 l.length (l.map Value.bool)::rs)):=by
 rcases h with ⟨f,a,c,rfl⟩ | ⟨b,o,c,rfl,F,hc⟩
 ·obtain rfl:l=[]:=List.map_eq_nil_iff.1 f;cases a with
  | none=>exact ⟨(uC 0 c w).mono fun e w' he=>by
    obtain ⟨rfl,rfl⟩:=he;exact d.yh 4 1⟩
  | some a =>
   refine enter func141 rfl (frm:=[_,_,_,_,_,_,_,_]) rfl ?_;refine ya ?_;refine Ba ?_;refine wl (Ci ua (ia fb) ?_);refine va ?_;refine ma ?_;refine ya ?_;refine ya ?_;refine Ba ?_;refine wl (kh (aa d0) (ia tb) ?_);refine wl (yF underlying228 (aa d3) (ia Fb) ?_);refine va ?_;refine ma ?_;refine cl (aa d4) ?_;refine Oa ?_;refine ma ?_;refine ya ?_;refine Ba ?_;refine wl (MG underlying228 qj d ?_);clear d;intro tg G H d;refine pu (ia Db) ?_;replace d:=d.Om (n:=0) (sz:=Va.sz Bool) d0 rfl (by decide) ra;refine wl (kh (aa d0) (ia Lb) ?_);refine wl (cu (α:=Bool) (l:=[]) (ys:=[]) (news:=[]) underlying228 qj rfl (aa d5) (aa d6) d d0 (fun e=>absurd rfl e) rfl (show app [] []=some [] from rfl) (by decide) ?_);clear d;intro v2 K y A d;cases (show _=y from A);replace d:=Sep.Ve d ra;refine pu (ia xb) ?_;refine wl (Ci (aa d7) (ia fb) ?_);refine va ?_;refine ma ?_;refine Sa ?_;refine yb rfl d2 ?_;exact d
 ·have B:∃ i z,prog.info? 4=some i∧i.zero=some z∧i.size=1∧i.bytes=1∧z.cells.size=1:=by
   obtain ⟨i,z,f,j,m,p,q⟩:=(qj).inf;exact ⟨i,z,f,j,p,q,by rw [m];rfl⟩
  obtain ⟨i,z,f,j,m,p,q⟩:=B;refine ⟨(xC i z 1 1 f j m p q (by decide) (fun w=>(qj).sizeOf) b o (l.map Value.bool).length c (l.map Value.bool) w (by simp) (by simp [maxLen];omega) (by simp;omega) hc (fun u hu=>?_)).mono fun e w' he=>?_⟩
  ·obtain ⟨x,-,rfl⟩:=List.mem_map.1 hu;rfl
  ·obtain ⟨s,rfl,t,-,g⟩:=he;rw [List.length_map] at t;obtain ⟨C,r⟩:=cv t;exact d.newRow ⟨g.os,g.tape,g.output,g.size,fun k r _=>g.block k r⟩ C r
theorem cC (μ:M) (l:List Value) (x:Bool) (h:Va.cs μ l x):l=[.bool x]:=h
theorem Pp {α:Type}[Va α]{f:α→Value}(a:∀ (μ:M) (x:α),Va.cs μ [f x] x):∀ (l:List α),na μ (l.map f) l
 | []=>rfl
 | x::l=>⟨[f x],_,rfl,a μ x,Pp a l⟩
end
end Go.Proofs.YtibdelbpkfeefaaGreatDoor
