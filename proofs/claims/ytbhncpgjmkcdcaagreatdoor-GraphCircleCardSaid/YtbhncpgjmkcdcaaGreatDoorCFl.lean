/- Texts of Fl. -/
import Derived.Test.YtbhncpgjmkcdcaaGreatDoorCXt
import Derived.Test.YtbhncpgjmkcdcaaGreatDoorProg
import Derived.KernelRfl
import Derived.Shelf.Strconv.Itoa0
import Derived.Shelf.Strconv.Itoa1
import Derived.Shelf.LaysM
import Derived.Shelf.Strconv.Itoa2
import Derived.Shelf.Strconv.Itoa3
import Derived.Shelf.Strconv.ParseIntEmpty
import Derived.Shelf.Strconv.Clone
import Derived.Shelf.Strconv.SyntaxError
import Derived.Shelf.LaysC
import Derived.Shelf.Strconv.ToError
import Derived.Shelf.Strconv.Lower
import Derived.Shelf.Strconv.ParseUint10
import Derived.Shelf.Strconv.ParseUint10Empty
import Derived.Shelf.Strconv.ParseUint10Any
import Derived.Shelf.Strconv.ParseInt10
import Derived.Shelf.Strconv.RangeError
import Derived.Shelf.Strconv.ToErrorRange
import Derived.Shelf.Strconv.ParseUintEmpty
import Derived.Shelf.Strconv.ParseUint10b64
import Derived.Shelf.Strconv.ParseUint10b32
import Derived.Shelf.Strconv.ParseUint10b16
import Derived.Shelf.Strconv.ParseUint10b8
import Derived.Shelf.Strconv.ParseUint10At
import Derived.Shelf.Strconv.ParseInt10At64
import Derived.Shelf.Strconv.ParseInt10At32
import Derived.Shelf.Strconv.ParseInt10At16
import Derived.Shelf.Strconv.ParseInt10At8
import Derived.Shelf.Strconv.ParseInt10All
import Derived.Shelf.Strconv.ParseIntPublic10
import Derived.Shelf.Strings.Search1
import Derived.Shelf.Strings.Search2
import Derived.Shelf.Strings.Search3
import Derived.Shelf.Strings.Shaped
import Derived.Shelf.Strings.Prefix
import Derived.Shelf.Slices.Turned
import Derived.Ground.Names2Prog
import Derived.Shelf.Slices.Clone
import Derived.Shelf.Slices.Delete
import Derived.Shelf.Slices.Empties
import Derived.Ground.SlgnProg
import Derived.Shelf.SlicesE.Clone
import Derived.Test.YtbhncpgjmkcdcaaGreatDoorCMd
import Derived.Test.YtbhncpgjmkcdcaaGreatDoorCXu
import Derived.Lib.SlicesS
set_option linter.unusedSimpArgs false
set_option linter.unusedVariables false
set_option linter.unusedSectionVars false
namespace Go.Proofs.YtbhncpgjmkcdcaaGreatDoor
open Go.yb Go.kc Tryz
instance nP:Fb prog 5:=Ob func5
instance oP:Fb prog 6:=Ob func6
instance pP:Fb prog 8:=Ob func8
instance qP:Fb prog 9:=Ob func9
instance YN:Fb prog 10:=Ob func10
instance ZN:Fb prog 11:=Ob func11
instance aO:Fb prog 12:=Ob func12
instance bO:Fb prog 13:=Ob func13
instance cO:Fb prog 14:=Ob func14
instance dO:Fb prog 16:=Ob func16
instance CJ:Fb prog 17:=Ob func17
instance eO:Fb prog 19:=Ob func19
instance DJ:Fb prog 20:=Ob func20
instance fO:Fb prog 21:=Ob func21
instance gO:Fb prog 22:=Ob func22
instance hO:Fb prog 23:=Ob func23
instance EJ:Fb prog 24:=Ob func24
instance FJ:Fb prog 25:=Ob func25
instance GJ:Fb prog 26:=Ob func26
instance HJ:Fb prog 27:=Ob func27
instance Ez:Fb prog 28:=Ob func28
instance IJ:Fb prog 29:=Ob func29
instance iO:Fb prog 30:=Ob func30
instance JJ:Fb prog 31:=Ob func31
instance jO:Fb prog 32:=Ob func32
instance KJ:Fb prog 33:=Ob func33
instance LJ:Fb prog 34:=Ob func34
instance MJ:Fb prog 35:=Ob func35
instance NJ:Fb prog 36:=Ob func36
instance UC:Fb prog 37:=Ob func37
instance kO:Fb prog 38:=Ob func38
instance OJ:Fb prog 39:=Ob func39
instance Fz:Fb prog 40:=Ob func40
instance PJ:Fb prog 41:=Ob func41
instance Gz:Fb prog 42:=Ob func42
instance QJ:Fb prog 43:=Ob func43
instance lO:Fb prog 44:=Ob func44
instance mO:Fb prog 45:=Ob func45
instance nO:Fb prog 46:=Ob func46
instance oO:Fb prog 47:=Ob func47
instance pO:Fb prog 48:=Ob func48
instance qO:Fb prog 49:=Ob func49
instance rO:Fb prog 51:=Ob func51
instance sO:Fb prog 52:=Ob func52
instance tO:Fb prog 53:=Ob func53
instance uO:Fb prog 54:=Ob func54
instance vO:Fb prog 56:=Ob func56
instance wO:Fb prog 57:=Ob func57
instance xO:Fb prog 58:=Ob func58
instance VC:Fb prog 59:=Ob func59
instance RJ:Fb prog 60:=Ob func60
instance WC:Fb prog 61:=Ob func61
instance XC:Fb prog 62:=Ob func62
instance Hz:Fb prog 63:=Ob func63
instance yO:Fb prog 64:=Ob func64
instance zO:Fb prog 65:=Ob func65
instance AO:Fb prog 66:=Ob func66
instance BO:Fb prog 67:=Ob func67
instance CO:Fb prog 72:=Ob func72
instance DO:Fb prog 73:=Ob func73
instance YC:Fb prog 74:=Ob func74
instance EO:Fb prog 75:=Ob func75
instance FO:Fb prog 76:=Ob func76
instance GO:Fb prog 77:=Ob func77
instance HO:Fb prog 78:=Ob func78
instance JO:Fb prog 79:=Ob func79
instance KO:Fb prog 80:=Ob func80
instance SJ:Fb prog 81:=Ob func81
instance Tw:Fb prog 82:=Ob func82
instance LO:Fb prog 83:=Ob func83
instance MO:Fb prog 84:=Ob func84
instance NO:Fb prog 85:=Ob func85
instance TJ:Fb prog 86:=Ob func86
instance OO:Fb prog 87:=Ob func87
instance ZC:Fb prog 88:=Ob func88
instance UJ:Fb prog 89:=Ob func89
instance VJ:Fb prog 90:=Ob func90
instance WJ:Fb prog 91:=Ob func91
instance XJ:Fb prog 92:=Ob func92
instance PO:Fb prog 93:=Ob func93
instance QO:Fb prog 94:=Ob func94
instance aD:Fb prog 95:=Ob func95
instance YJ:Fb prog 96:=Ob func96
instance ZJ:Fb prog 97:=Ob func97
instance RO:Fb prog 98:=Ob func98
instance SO:Fb prog 99:=Ob func99
instance YH:Fb prog 100:=Ob func100
instance yM:Fb prog 101:=Ob func101
instance zM:Fb prog 107:=Ob func107
instance ZH:Fb prog 108:=Ob func108
instance aI:Fb prog 109:=Ob func109
instance pC:Fb prog 110:=Ob func110
instance AM:Fb prog 111:=Ob func111
instance BM:Fb prog 112:=Ob func112
instance bI:Fb prog 113:=Ob func113
instance cI:Fb prog 114:=Ob func114
instance CM:Fb prog 115:=Ob func115
instance dI:Fb prog 116:=Ob func116
instance eI:Fb prog 117:=Ob func117
instance fI:Fb prog 118:=Ob func118
instance DM:Fb prog 119:=Ob func119
instance gI:Fb prog 120:=Ob func120
instance qC:Fb prog 121:=Ob func121
instance rC:Fb prog 122:=Ob func122
instance sC:Fb prog 123:=Ob func123
instance mz:Fb prog 124:=Ob func124
instance EM:Fb prog 125:=Ob func125
instance FM:Fb prog 126:=Ob func126
instance GM:Fb prog 127:=Ob func127
instance HM:Fb prog 128:=Ob func128
instance tC:Fb prog 129:=Ob func129
instance IM:Fb prog 130:=Ob func130
instance JM:Fb prog 137:=Ob func137
instance KM:Fb prog 138:=Ob func138
instance uC:Fb prog 140:=Ob func140
instance hI:Fb prog 141:=Ob func141
instance LM:Fb prog 142:=Ob func142
instance MM:Fb prog 143:=Ob func143
instance NM:Fb prog 144:=Ob func144
instance OM:Fb prog 145:=Ob func145
instance PM:Fb prog 146:=Ob func146
instance QM:Fb prog 149:=Ob func149
instance RM:Fb prog 150:=Ob func150
instance SM:Fb prog 151:=Ob func151
instance vC:Fb prog 152:=Ob func152
instance iI:Fb prog 153:=Ob func153
instance jI:Fb prog 154:=Ob func154
instance TM:Fb prog 160:=Ob func160
instance UM:Fb prog 161:=Ob func161
instance kI:Fb prog 163:=Ob func163
instance VM:Fb prog 173:=Ob func173
instance lI:Fb prog 199:=Ob func199
instance mI:Fb prog 200:=Ob func200
instance nI:Fb prog 201:=Ob func201
instance oI:Fb prog 202:=Ob func202
instance WM:Fb prog 203:=Ob func203
instance XM:Fb prog 204:=Ob func204
instance YM:Fb prog 205:=Ob func205
instance ZM:Fb prog 206:=Ob func206
instance ph:mc prog 2 false [.int .i64 0] 1 8:=Od (z:=.int .i64 0) underlying2
instance La:mc prog 3 false [.int .i64 0] 1 8:=Od (z:=.int .i64 0) underlying3
instance qk:mc prog 4 false [.bool false] 1 1:=Od (z:=.bool false) underlying4
instance af:mc prog 9 false [S []] 1 16:=Od (z:=S []) underlying9
instance qx:mc prog 22 false [.slice none 0 0] 1 24:=Od (z:=.slice none 0 0) underlying22
instance Sl:mc prog 23 false [.slice none 0 0] 1 24:=Od (z:=.slice none 0 0) underlying23
instance rP:mc prog 25 true [.slice none 0 0,.slice none 0 0] 2 48:=Od (z:=.agg #[.slice none 0 0,.slice none 0 0]) underlying25
instance su:mc prog 28 false [.slice none 0 0] 1 24:=Od (z:=.slice none 0 0) underlying28
instance tu:mc prog 29 false [.slice none 0 0] 1 24:=Od (z:=.slice none 0 0) underlying29
instance mj:mc prog 31 true [.slice none 0 0,.slice none 0 0,.int .i64 0] 3 56:=Od (z:=.agg #[.slice none 0 0,.slice none 0 0,.int .i64 0]) underlying31
instance fq:mc prog 32 false [.int .i64 0] 1 8:=Od (z:=.int .i64 0) underlying32
instance gi:mc prog 35 false [.slice none 0 0] 1 24:=Od (z:=.slice none 0 0) underlying35
instance Kn:mc prog 37 true [.int .i64 0,.int .i64 0,.int .i64 0,.slice none 0 0] 4 48:=Od (z:=.agg #[.int .i64 0,.int .i64 0,.int .i64 0,.slice none 0 0]) underlying37
instance Aj:mc prog 39 false [.slice none 0 0] 1 24:=Od (z:=.slice none 0 0) underlying39
instance Yo:mc prog 44 false [.slice none 0 0] 1 24:=Od (z:=.slice none 0 0) underlying44
instance Vf:mc prog 46 true [.int .i64 0,.int .i64 0] 2 16:=Od (z:=.agg #[.int .i64 0,.int .i64 0]) underlying46
instance Lh:mc prog 49 false [.slice none 0 0] 1 24:=Od (z:=.slice none 0 0) underlying49
instance hk:mc prog 55 false [.pointer none] 1 8:=Od (z:=.pointer none) underlying55
instance sx:mc prog 57 true [.int .i64 0,.int .i64 0] 2 16:=Od (z:=.agg #[.int .i64 0,.int .i64 0]) underlying57
instance ik:mc prog 59 true [.int .i64 0,.int .i64 0] 2 16:=Od (z:=.agg #[.int .i64 0,.int .i64 0]) underlying59
instance Ln:mc prog 64 false [.slice none 0 0] 1 24:=Od (z:=.slice none 0 0) underlying64
instance Bj:mc prog 66 true [.int .i64 0,.int .i64 0,.slice none 0 0,.int .i64 0,.int .i64 0,.slice none 0 0] 6 80:=Od (z:=.agg #[.int .i64 0,.int .i64 0,.slice none 0 0,.int .i64 0,.int .i64 0,.slice none 0 0]) underlying66
instance Mn:mc prog 68 false [.slice none 0 0] 1 24:=Od (z:=.slice none 0 0) underlying68
instance sP:mc prog 73 false [.pointer none] 1 8:=Od (z:=.pointer none) underlying73
instance YL:mc prog 75 true [.slice none 0 0,.int .i64 0,.int .i64 0] 3 40:=Od (z:=.agg #[.slice none 0 0,.int .i64 0,.int .i64 0]) underlying75
instance Mh:mc prog 79 true [.int .i64 0,S []] 2 24:=Od (z:=.agg #[.int .i64 0,S []]) underlying79
instance ZL:mc prog 81 false [.slice none 0 0] 1 24:=Od (z:=.slice none 0 0) underlying81
instance uh:mc prog 83 true [.int .i64 0,S [],.int .i64 0,S [],.int .i64 0,S [],.int .i64 0,.slice none 0 0,.slice none 0 0] 9 128:=Od (z:=.agg #[.int .i64 0,S [],.int .i64 0,S [],.int .i64 0,S [],.int .i64 0,.slice none 0 0,.slice none 0 0]) underlying83
instance ND:mc prog 86 false [.slice none 0 0] 1 24:=Od (z:=.slice none 0 0) underlying86
instance tx:mc prog 93 true [S [],S [],S []] 3 48:=Od (z:=.agg #[S [],S [],S []]) underlying93
instance Ef:mc prog 99 true [.int .i64 0,.int .i64 0,.int .i64 0] 3 24:=Od (z:=.agg #[.int .i64 0,.int .i64 0,.int .i64 0]) underlying99
instance Xp:mc prog 101 false [.slice none 0 0] 1 24:=Od (z:=.slice none 0 0) underlying101
instance Sr:mc prog 103 false [.slice none 0 0] 1 24:=Od (z:=.slice none 0 0) underlying103
instance hL:mc prog 105 true [.slice none 0 0,.slice none 0 0,.int .i64 0] 3 56:=Od (z:=.agg #[.slice none 0 0,.slice none 0 0,.int .i64 0]) underlying105
instance Dn:mc prog 107 true [.int .i64 0,.int .i64 0] 2 16:=Od (z:=.agg #[.int .i64 0,.int .i64 0]) underlying107
instance Yp:mc prog 108 false [.pointer none] 1 8:=Od (z:=.pointer none) underlying108
instance Tr:mc prog 111 false [.pointer none] 1 8:=Od (z:=.pointer none) underlying111
instance iu:mc prog 114 false [.nilIface] 1 16:=Od (z:=.nilIface) underlying114
instance qm:mc prog 115 false [.slice none 0 0] 1 24:=Od (z:=.slice none 0 0) underlying115
instance si:mc prog 116 false [.pointer none] 1 8:=Od (z:=.pointer none) underlying116
instance iL:mc prog 117 false [.nilFunc] 1 8:=Od (z:=.nilFunc) underlying117
instance jL:mc prog 119 true [.pointer none,.nilIface,.slice none 0 0,.pointer none,.int .i64 0,.int .i64 0,.int .i64 0,.slice none 0 0,.nilFunc] 9 112:=Od (z:=.agg #[.pointer none,.nilIface,.slice none 0 0,.pointer none,.int .i64 0,.int .i64 0,.int .i64 0,.slice none 0 0,.nilFunc]) underlying119
instance ej:mc prog 122 true [.int .i64 0,.int .i64 0,.int .i64 0] 3 24:=Od (z:=.agg #[.int .i64 0,.int .i64 0,.int .i64 0]) underlying122
instance ek:mc prog 126 true [.int .i64 0,S [],.int .i64 0,.int .i64 0] 4 40:=Od (z:=.agg #[.int .i64 0,S [],.int .i64 0,.int .i64 0]) underlying126
instance kL:mc prog 142 true [.int .i64 0] 1 8:=Od (z:=.agg #[.int .i64 0]) underlying142
instance bA:mc prog 143 false [.nilFunc] 1 8:=Od (z:=.nilFunc) underlying143
instance cA:mc prog 144 false [.pointer none] 1 8:=Od (z:=.pointer none) underlying144
instance Po:mc prog 149 true [S [],S [],S []] 3 48:=Od (z:=.agg #[S [],S [],S []]) underlying149
instance ju:mc prog 152 false [.pointer none] 1 8:=Od (z:=.pointer none) underlying152
instance lL:mc prog 154 true [.pointer none] 1 8:=Od (z:=.agg #[.pointer none]) underlying154
instance mL:mc prog 158 true [.slice none 0 0,.int .i64 0,.int .i64 0] 3 40:=Od (z:=.agg #[.slice none 0 0,.int .i64 0,.int .i64 0]) underlying158
instance Ni:mc prog 160 false [.slice none 0 0] 1 24:=Od (z:=.slice none 0 0) underlying160
instance Zp:mc prog 161 false [.pointer none] 1 8:=Od (z:=.pointer none) underlying161
instance nL:mc prog 163 true [.int .i64 0,.pointer none,.slice none 0 0,.pointer none] 4 48:=Od (z:=.agg #[.int .i64 0,.pointer none,.slice none 0 0,.pointer none]) underlying163
instance Kj:mc prog 166 true [.int .i64 0,.int .i64 0,.int .i64 0] 3 24:=Od (z:=.agg #[.int .i64 0,.int .i64 0,.int .i64 0]) underlying166
instance uD:mc prog 182 false [.slice none 0 0] 1 24:=Od (z:=.slice none 0 0) underlying182
instance fi:mc prog 184 true [.int .i64 0,.int .i64 0,S [],.slice none 0 0] 4 56:=Od (z:=.agg #[.int .i64 0,.int .i64 0,S [],.slice none 0 0]) underlying184
instance Ak:mc prog 186 true [.int .i64 0,S [],.int .i64 0,.int .i64 0,S [],.slice none 0 0,.slice none 0 0,.slice none 0 0] 8 128:=Od (z:=.agg #[.int .i64 0,S [],.int .i64 0,.int .i64 0,S [],.slice none 0 0,.slice none 0 0,.slice none 0 0]) underlying186
instance dA:mc prog 191 false [.pointer none] 1 8:=Od (z:=.pointer none) underlying191
instance ku:mc prog 196 true [.slice none 0 0,.slice none 0 0,.slice none 0 0] 3 72:=Od (z:=.agg #[.slice none 0 0,.slice none 0 0,.slice none 0 0]) underlying196
instance oL:mc prog 198 false [.pointer none] 1 8:=Od (z:=.pointer none) underlying198
instance En:mc prog 199 true [.slice none 0 0,.pointer none] 2 32:=Od (z:=.agg #[.slice none 0 0,.pointer none]) underlying199
instance eA:mc prog 202 false [.pointer none] 1 8:=Od (z:=.pointer none) underlying202
instance fA:mc prog 206 false [.map none] 1 8:=Od (z:=.map none) underlying206
instance Gn:mc prog 207 false [.slice none 0 0] 1 24:=Od (z:=.slice none 0 0) underlying207
instance Bk:mc prog 209 true [.slice none 0 0,.slice none 0 0] 2 48:=Od (z:=.agg #[.slice none 0 0,.slice none 0 0]) underlying209
instance pL:mc prog 211 true [.pointer none,.pointer none,.map none,.slice none 0 0,.slice none 0 0,.slice none 0 0,.int .i64 0] 7 104:=Od (z:=.agg #[.pointer none,.pointer none,.map none,.slice none 0 0,.slice none 0 0,.slice none 0 0,.int .i64 0]) underlying211
instance qL:mc prog 219 true [.slice none 0 0,.int .i64 0,.int .i64 0,.int .i64 0] 4 48:=Od (z:=.agg #[.slice none 0 0,.int .i64 0,.int .i64 0,.int .i64 0]) underlying219
instance gA:mc prog 234 false [.map none] 1 8:=Od (z:=.map none) underlying234
instance rL:mc prog 236 true [.slice none 0 0,.map none] 2 32:=Od (z:=.agg #[.slice none 0 0,.map none]) underlying236
instance vD:mc prog 260 false [.map none] 1 8:=Od (z:=.map none) underlying260
instance rm:mc prog 262 false [.pointer none] 1 8:=Od (z:=.pointer none) underlying262
instance ix:mc prog 263 false [.map none] 1 8:=Od (z:=.map none) underlying263
instance Qo:mc prog 264 false [.slice none 0 0] 1 24:=Od (z:=.slice none 0 0) underlying264
instance sL:mc prog 266 true [.pointer none,.pointer none,.slice none 0 0] 3 40:=Od (z:=.agg #[.pointer none,.pointer none,.slice none 0 0]) underlying266
instance aq:mc prog 280 true [.map none,.bool false] 2 16:=Od (z:=.agg #[.map none,.bool false]) underlying280
theorem aM:prog.eqGuardType prog.depth 79=false:=by kernel_rfl
theorem bM:prog.stoodInHeld 79=false:=by kernel_rfl
instance pI:Uc prog 105 0 0:=ed underlying105 rfl rfl rfl Xp rfl
instance aN:Uc prog 105 1 1:=ed underlying105 rfl rfl rfl Sr rfl
instance bN:Uc prog 105 2 2:=ed underlying105 rfl rfl rfl La rfl
instance cN:Uc prog 107 0 0:=ed underlying107 rfl rfl rfl La rfl
instance dN:Uc prog 107 1 1:=ed underlying107 rfl rfl rfl La rfl
instance qI:Uc prog 119 0 0:=ed underlying119 rfl rfl rfl hk rfl
instance wC:Uc prog 119 1 1:=ed underlying119 rfl rfl rfl iu rfl
instance rI:Uc prog 119 2 2:=ed underlying119 rfl rfl rfl qm rfl
instance Tt:Uc prog 119 3 3:=ed underlying119 rfl rfl rfl si rfl
instance sI:Uc prog 119 4 4:=ed underlying119 rfl rfl rfl La rfl
instance eN:Uc prog 119 5 5:=ed underlying119 rfl rfl rfl La rfl
instance fN:Uc prog 119 6 6:=ed underlying119 rfl rfl rfl La rfl
instance gN:Uc prog 119 7 7:=ed underlying119 rfl rfl rfl gi rfl
instance hN:Uc prog 119 8 8:=ed underlying119 rfl rfl rfl iL rfl
instance tI:Uc prog 122 0 0:=ed underlying122 rfl rfl rfl La rfl
instance Ut:Uc prog 122 1 1:=ed underlying122 rfl rfl rfl La rfl
instance iN:Uc prog 122 2 2:=ed underlying122 rfl rfl rfl ph rfl
instance jN:Uc prog 126 0 0:=ed underlying126 rfl rfl rfl La rfl
instance kN:Uc prog 126 1 1:=ed underlying126 rfl rfl rfl af rfl
instance lN:Uc prog 126 2 2:=ed underlying126 rfl rfl rfl ph rfl
instance mN:Uc prog 126 3 3:=ed underlying126 rfl rfl rfl La rfl
instance nN:Uc prog 142 0 0:=ed underlying142 rfl rfl rfl La rfl
instance oN:Uc prog 149 0 0:=ed underlying149 rfl rfl rfl af rfl
instance pN:Uc prog 149 1 1:=ed underlying149 rfl rfl rfl af rfl
instance qN:Uc prog 149 2 2:=ed underlying149 rfl rfl rfl af rfl
instance uI:Uc prog 154 0 0:=ed underlying154 rfl rfl rfl hk rfl
instance rN:Uc prog 158 0 0:=ed underlying158 rfl rfl rfl gi rfl
instance sN:Uc prog 158 1 1:=ed underlying158 rfl rfl rfl La rfl
instance tN:Uc prog 158 2 2:=ed underlying158 rfl rfl rfl La rfl
instance vI:Uc prog 163 0 0:=ed underlying163 rfl rfl rfl La rfl
instance uN:Uc prog 163 1 1:=ed underlying163 rfl rfl rfl si rfl
instance xC:Uc prog 163 2 2:=ed underlying163 rfl rfl rfl Ni rfl
instance vN:Uc prog 163 3 3:=ed underlying163 rfl rfl rfl Zp rfl
instance wI:Uc prog 166 0 0:=ed underlying166 rfl rfl rfl La rfl
instance nz:Uc prog 166 1 1:=ed underlying166 rfl rfl rfl La rfl
instance wN:Uc prog 166 2 2:=ed underlying166 rfl rfl rfl La rfl
instance xN:Uc prog 184 0 0:=ed underlying184 rfl rfl rfl La rfl
instance yN:Uc prog 184 1 1:=ed underlying184 rfl rfl rfl ph rfl
instance zN:Uc prog 184 2 2:=ed underlying184 rfl rfl rfl af rfl
instance AN:Uc prog 184 3 3:=ed underlying184 rfl rfl rfl uD rfl
instance BN:Uc prog 186 0 0:=ed underlying186 rfl rfl rfl La rfl
instance CN:Uc prog 186 1 1:=ed underlying186 rfl rfl rfl af rfl
instance DN:Uc prog 186 2 2:=ed underlying186 rfl rfl rfl fi rfl
instance EN:Uc prog 196 0 0:=ed underlying196 rfl rfl rfl Lh rfl
instance FN:Uc prog 196 1 1:=ed underlying196 rfl rfl rfl Lh rfl
instance GN:Uc prog 196 2 2:=ed underlying196 rfl rfl rfl Lh rfl
instance HN:Uc prog 199 0 0:=ed underlying199 rfl rfl rfl Lh rfl
instance IN:Uc prog 199 1 1:=ed underlying199 rfl rfl rfl oL rfl
instance JN:Uc prog 209 0 0:=ed underlying209 rfl rfl rfl Aj rfl
instance KN:Uc prog 209 1 1:=ed underlying209 rfl rfl rfl Gn rfl
instance LN:Uc prog 211 0 0:=ed underlying211 rfl rfl rfl ju rfl
instance MN:Uc prog 211 1 1:=ed underlying211 rfl rfl rfl eA rfl
instance NN:Uc prog 211 2 2:=ed underlying211 rfl rfl rfl fA rfl
instance ON:Uc prog 211 3 3:=ed underlying211 rfl rfl rfl Aj rfl
instance PN:Uc prog 211 4 4:=ed underlying211 rfl rfl rfl Bk rfl
instance QN:Uc prog 211 5 6:=ed underlying211 rfl rfl rfl fq rfl
instance xI:Uc prog 219 0 0:=ed underlying219 rfl rfl rfl gi rfl
instance RN:Uc prog 219 1 1:=ed underlying219 rfl rfl rfl La rfl
instance yI:Uc prog 219 2 2:=ed underlying219 rfl rfl rfl La rfl
instance SN:Uc prog 219 3 3:=ed underlying219 rfl rfl rfl La rfl
instance TN:Uc prog 236 1 1:=ed underlying236 rfl rfl rfl gA rfl
instance aK:Uc prog 25 0 0:=ed underlying25 rfl rfl rfl qx rfl
instance bK:Uc prog 25 1 1:=ed underlying25 rfl rfl rfl Sl rfl
instance UN:Uc prog 266 0 0:=ed underlying266 rfl rfl rfl dA rfl
instance VN:Uc prog 266 2 2:=ed underlying266 rfl rfl rfl Qo rfl
instance WN:Uc prog 280 0 0:=ed underlying280 rfl rfl rfl vD rfl
instance TO:Uc prog 31 0 0:=ed underlying31 rfl rfl rfl su rfl
instance UO:Uc prog 31 1 1:=ed underlying31 rfl rfl rfl tu rfl
instance VO:Uc prog 37 0 0:=ed underlying37 rfl rfl rfl La rfl
instance WO:Uc prog 37 1 1:=ed underlying37 rfl rfl rfl La rfl
instance XO:Uc prog 46 0 0:=ed underlying46 rfl rfl rfl fq rfl
instance cK:Uc prog 57 0 0:=ed underlying57 rfl rfl rfl La rfl
instance YO:Uc prog 57 1 1:=ed underlying57 rfl rfl rfl La rfl
instance dK:Uc prog 66 0 0:=ed underlying66 rfl rfl rfl La rfl
instance Uw:Uc prog 66 1 1:=ed underlying66 rfl rfl rfl La rfl
instance Iz:Uc prog 66 2 2:=ed underlying66 rfl rfl rfl Aj rfl
instance ZO:Uc prog 66 3 3:=ed underlying66 rfl rfl rfl La rfl
instance aP:Uc prog 66 4 4:=ed underlying66 rfl rfl rfl La rfl
instance bD:Uc prog 66 5 5:=ed underlying66 rfl rfl rfl Ln rfl
instance bP:Uc prog 75 0 0:=ed underlying75 rfl rfl rfl Mn rfl
instance cP:Uc prog 75 2 2:=ed underlying75 rfl rfl rfl La rfl
instance dP:Uc prog 79 0 0:=ed underlying79 rfl rfl rfl La rfl
instance eP:Uc prog 79 1 1:=ed underlying79 rfl rfl rfl af rfl
instance eK:Uc prog 83 0 0:=ed underlying83 rfl rfl rfl La rfl
instance fP:Uc prog 83 1 1:=ed underlying83 rfl rfl rfl af rfl
instance gP:Uc prog 83 2 2:=ed underlying83 rfl rfl rfl Mh rfl
instance hP:Uc prog 83 4 6:=ed underlying83 rfl rfl rfl La rfl
instance iP:Uc prog 83 6 8:=ed underlying83 rfl rfl rfl ZL rfl
instance jP:Uc prog 93 1 1:=ed underlying93 rfl rfl rfl af rfl
instance kP:Uc prog 93 2 2:=ed underlying93 rfl rfl rfl af rfl
instance lP:Uc prog 99 0 0:=ed underlying99 rfl rfl rfl fq rfl
theorem tL:qh prog 105 #[(0,1),(1,1),(2,1)]:=Fh underlying105 (fun _=>by kernel_rfl)
theorem uL:qh prog 119 #[(0,1),(1,1),(2,1),(3,1),(4,1),(5,1),(6,1),(7,1),(8,1)]:=Fh underlying119 (fun _=>by kernel_rfl)
theorem vL:qh prog 126 #[(0,1),(1,1),(2,1),(3,1)]:=Fh underlying126 (fun _=>by kernel_rfl)
theorem wL:qh prog 142 #[(0,1)]:=Fh underlying142 (fun _=>by kernel_rfl)
theorem xL:qh prog 149 #[(0,1),(1,1),(2,1)]:=Fh underlying149 (fun _=>by kernel_rfl)
theorem yL:qh prog 154 #[(0,1)]:=Fh underlying154 (fun _=>by kernel_rfl)
theorem zL:qh prog 158 #[(0,1),(1,1),(2,1)]:=Fh underlying158 (fun _=>by kernel_rfl)
theorem AL:qh prog 163 #[(0,1),(1,1),(2,1),(3,1)]:=Fh underlying163 (fun _=>by kernel_rfl)
theorem wD:qh prog 166 #[(0,1),(1,1),(2,1)]:=Fh underlying166 (fun _=>by kernel_rfl)
theorem xD:qh prog 184 #[(0,1),(1,1),(2,1),(3,1)]:=Fh underlying184 (fun _=>by kernel_rfl)
theorem hA:qh prog 186 #[(0,1),(1,1),(2,4),(6,1),(7,1)]:=Fh underlying186 (fun _=>by kernel_rfl)
theorem yD:qh prog 199 #[(0,1),(1,1)]:=Fh underlying199 (fun _=>by kernel_rfl)
theorem zD:qh prog 209 #[(0,1),(1,1)]:=Fh underlying209 (fun _=>by kernel_rfl)
theorem BL:qh prog 211 #[(0,1),(1,1),(2,1),(3,1),(4,2),(6,1)]:=Fh underlying211 (fun _=>by kernel_rfl)
theorem CL:qh prog 219 #[(0,1),(1,1),(2,1),(3,1)]:=Fh underlying219 (fun _=>by kernel_rfl)
theorem DL:qh prog 236 #[(0,1),(1,1)]:=Fh underlying236 (fun _=>by kernel_rfl)
theorem EL:qh prog 266 #[(0,1),(1,1),(2,1)]:=Fh underlying266 (fun _=>by kernel_rfl)
theorem lu:qh prog 280 #[(0,1),(1,1)]:=Fh underlying280 (fun _=>by kernel_rfl)
theorem ux:qh prog 31 #[(0,1),(1,1),(2,1)]:=Fh underlying31 (fun _=>by kernel_rfl)
theorem cM:qh prog 37 #[(0,1),(1,1),(2,1),(3,1)]:=Fh underlying37 (fun _=>by kernel_rfl)
theorem vx:qh prog 46 #[(0,1),(1,1)]:=Fh underlying46 (fun _=>by kernel_rfl)
theorem dM:qh prog 57 #[(0,1),(1,1)]:=Fh underlying57 (fun _=>by kernel_rfl)
theorem uu:qh prog 59 #[(0,1),(1,1)]:=Fh underlying59 (fun _=>by kernel_rfl)
theorem eM:qh prog 75 #[(0,1),(1,1),(2,1)]:=Fh underlying75 (fun _=>by kernel_rfl)
theorem OD:qh prog 79 #[(0,1),(1,1)]:=Fh underlying79 (fun _=>by kernel_rfl)
theorem PD:qh prog 83 #[(0,1),(1,1),(2,2),(4,2),(6,1),(7,1),(8,1)]:=Fh underlying83 (fun _=>by kernel_rfl)
theorem fM:qh prog 93 #[(0,1),(1,1),(2,1)]:=Fh underlying93 (fun _=>by kernel_rfl)
theorem vm:qh prog 99 #[(0,1),(1,1),(2,1)]:=Fh underlying99 (fun _=>by kernel_rfl)
theorem AD:∀ w,(zeroValue 144).run prog w=.ok (.pointer none) w:=cx (by kernel_rfl)
theorem BD:∀ w,(zeroValue 196).run prog w=.ok (.agg #[.slice none 0 0,.slice none 0 0,.slice none 0 0]) w:=cx (by kernel_rfl)
theorem iA:∀ w,(zeroValue 209).run prog w=.ok (.agg #[.slice none 0 0,.slice none 0 0]) w:=cx (by kernel_rfl)
theorem pM:∀ w,(zeroValue 3).run prog w=.ok (.int .i64 0) w:=cx (by kernel_rfl)
end Go.Proofs.YtbhncpgjmkcdcaaGreatDoor
namespace Go.Proofs
open Go.Shelf
def Tryz.mE:Go.Shelf.Ren:=⟨fun | 174=>43 | 247=>70 | 245=>71 | 287=>102 | 279=>103 | 280=>104 | 281=>105 | 282=>106 | 321=>131 | 322=>132 | 316=>133 | 171=>135 | 205=>134 | 243=>147 | 246=>155 | 283=>165 | 284=>166 | 285=>167 | 286=>168 | 129=>178 | 317=>177 | 318=>179 | 319=>180 | 320=>181 | 337=>182 | 338=>183 | n=>n,fun | 9=>9 | 3=>3 | 2=>2 | 75=>130 | 85=>131 | 4=>4 | 167=>223 | 5=>5 | 53=>224 | 175=>225 | 46=>227 | 168=>228 | 37=>251 | 0=>0 | 210=>253 | 21=>21 | 127=>273 | 145=>276 | 143=>274 | 171=>291 | 173=>294 | 212=>305 | 51=>296 | 20=>20 | 213=>306 | 232=>309 | 233=>310 | 80=>134 | n=>n,fun | 15=>0 | 16=>1 | 17=>3 | 18=>4 | 19=>5 | n=>n⟩
theorem Tryz.FG:Go.Proofs.LaysC.n174 Tryz.prog Tryz.mE:={
 mixed:=by kernel_rfl
 f129:=Tryz.func178.trans (congrArg some (by kernel_rfl))
 f171:=Tryz.func135.trans (congrArg some (by kernel_rfl))
 f174:=Tryz.func43.trans (congrArg some (by kernel_rfl))
 f205:=Tryz.func134.trans (congrArg some (by kernel_rfl))
 f243:=Tryz.func147.trans (congrArg some (by kernel_rfl))
 f245:=Tryz.func71.trans (congrArg some (by kernel_rfl))
 f246:=Tryz.func155.trans (congrArg some (by kernel_rfl))
 f247:=Tryz.func70.trans (congrArg some (by kernel_rfl))
 f279:=Tryz.func103.trans (congrArg some (by kernel_rfl))
 f280:=Tryz.func104.trans (congrArg some (by kernel_rfl))
 f281:=Tryz.func105.trans (congrArg some (by kernel_rfl))
 f282:=Tryz.func106.trans (congrArg some (by kernel_rfl))
 f283:=Tryz.func165.trans (congrArg some (by kernel_rfl))
 f284:=Tryz.func166.trans (congrArg some (by kernel_rfl))
 f285:=Tryz.func167.trans (congrArg some (by kernel_rfl))
 f286:=Tryz.func168.trans (congrArg some (by kernel_rfl))
 f287:=Tryz.func102.trans (congrArg some (by kernel_rfl))
 f316:=Tryz.func133.trans (congrArg some (by kernel_rfl))
 f317:=Tryz.func177.trans (congrArg some (by kernel_rfl))
 f318:=Tryz.func179.trans (congrArg some (by kernel_rfl))
 f319:=Tryz.func180.trans (congrArg some (by kernel_rfl))
 f320:=Tryz.func181.trans (congrArg some (by kernel_rfl))
 f321:=Tryz.func131.trans (congrArg some (by kernel_rfl))
 f322:=Tryz.func132.trans (congrArg some (by kernel_rfl))
 f337:=Tryz.func182.trans (congrArg some (by kernel_rfl))
 f338:=Tryz.func183.trans (congrArg some (by kernel_rfl))
 t0:=Tryz.underlying0
 a0:=Tryz.isAgg0
 z0:=Tryz.sizeOf0
 v0:=Tryz.zeroValue0
 t2:=Tryz.underlying2
 a2:=Tryz.isAgg2
 z2:=Tryz.sizeOf2
 v2:=Tryz.zeroValue2
 t3:=Tryz.underlying3
 a3:=Tryz.isAgg3
 z3:=Tryz.sizeOf3
 v3:=Tryz.zeroValue3
 t4:=Tryz.underlying4
 a4:=Tryz.isAgg4
 z4:=Tryz.sizeOf4
 v4:=Tryz.zeroValue4
 t5:=Tryz.underlying5
 a5:=Tryz.isAgg5
 z5:=Tryz.sizeOf5
 v5:=Tryz.zeroValue5
 t9:=Tryz.underlying9
 a9:=Tryz.isAgg9
 z9:=Tryz.sizeOf9
 v9:=Tryz.zeroValue9
 t20:=Tryz.underlying20
 a20:=Tryz.isAgg20
 z20:=Tryz.sizeOf20
 v20:=Tryz.zeroValue20
 t21:=Tryz.underlying21
 a21:=Tryz.isAgg21
 z21:=Tryz.sizeOf21
 v21:=Tryz.zeroValue21
 t37:=Tryz.underlying251
 a37:=Tryz.isAgg251
 z37:=Tryz.sizeOf251
 v37:=Tryz.zeroValue251
 t46:=Tryz.underlying227
 a46:=Tryz.isAgg227
 z46:=Tryz.sizeOf227
 v46:=Tryz.zeroValue227
 t51:=Tryz.underlying296
 a51:=Tryz.isAgg296
 z51:=Tryz.sizeOf296
 v51:=Tryz.zeroValue296
 t53:=Tryz.underlying224
 a53:=Tryz.isAgg224
 z53:=Tryz.sizeOf224
 v53:=Tryz.zeroValue224
 t75:=Tryz.underlying130
 a75:=Tryz.isAgg130
 z75:=Tryz.sizeOf130
 v75:=Tryz.zeroValue130
 t85:=Tryz.underlying131
 a85:=Tryz.isAgg131
 z85:=Tryz.sizeOf131
 v85:=Tryz.zeroValue131
 t127:=Tryz.underlying273
 a127:=Tryz.isAgg273
 z127:=Tryz.sizeOf273
 v127:=Tryz.zeroValue273
 t143:=Tryz.underlying274
 a143:=Tryz.isAgg274
 z143:=Tryz.sizeOf274
 v143:=Tryz.zeroValue274
 t145:=Tryz.underlying276
 a145:=Tryz.isAgg276
 z145:=Tryz.sizeOf276
 v145:=Tryz.zeroValue276
 t167:=Tryz.underlying223
 a167:=Tryz.isAgg223
 z167:=Tryz.sizeOf223
 v167:=Tryz.zeroValue223
 t168:=Tryz.underlying228
 a168:=Tryz.isAgg228
 z168:=Tryz.sizeOf228
 v168:=Tryz.zeroValue228
 t171:=Tryz.underlying291
 a171:=Tryz.isAgg291
 z171:=Tryz.sizeOf291
 v171:=Tryz.zeroValue291
 t173:=Tryz.underlying294
 a173:=Tryz.isAgg294
 z173:=Tryz.sizeOf294
 v173:=Tryz.zeroValue294
 t175:=Tryz.underlying225
 a175:=Tryz.isAgg225
 z175:=Tryz.sizeOf225
 v175:=Tryz.zeroValue225
 t210:=Tryz.underlying253
 a210:=Tryz.isAgg253
 z210:=Tryz.sizeOf253
 v210:=Tryz.zeroValue253
 t212:=Tryz.underlying305
 a212:=Tryz.isAgg305
 z212:=Tryz.sizeOf305
 v212:=Tryz.zeroValue305
 t213:=Tryz.underlying306
 a213:=Tryz.isAgg306
 z213:=Tryz.sizeOf306
 t232:=Tryz.underlying309
 a232:=Tryz.isAgg309
 z232:=Tryz.sizeOf309
 v232:=Tryz.zeroValue309
 t233:=Tryz.underlying310
 a233:=Tryz.isAgg310
 z233:=Tryz.sizeOf310
 v233:=Tryz.zeroValue310
 g15:=by kernel_rfl
 g16:=by kernel_rfl
 g17:=by kernel_rfl
 g18:=by kernel_rfl
 g19:=by kernel_rfl
 t80:=Tryz.underlying134
 a80:=Tryz.isAgg134
 z80:=Tryz.sizeOf134
 v80:=Tryz.zeroValue134
 i0:=by kernel_rfl
 i2:=by kernel_rfl
 i3:=by kernel_rfl
 i4:=by kernel_rfl
 i5:=by kernel_rfl
 i9:=by kernel_rfl
 i20:=by kernel_rfl
 i21:=by kernel_rfl
 i37:=by kernel_rfl
 i46:=by kernel_rfl
 i51:=by kernel_rfl
 i53:=by kernel_rfl
 i75:=by kernel_rfl
 i80:=by kernel_rfl
 i85:=by kernel_rfl
 i127:=by kernel_rfl
 i143:=by kernel_rfl
 i145:=by kernel_rfl
 i167:=by kernel_rfl
 i168:=by kernel_rfl
 i171:=by kernel_rfl
 i173:=by kernel_rfl
 i175:=by kernel_rfl
 i210:=by kernel_rfl
 i212:=by kernel_rfl
 i232:=by kernel_rfl
 i233:=by kernel_rfl
 m15:=by kernel_rfl
 m16:=by kernel_rfl
 m17:=by kernel_rfl
 m18:=by kernel_rfl
 m19:=by kernel_rfl
 c0:=by kernel_rfl
 c2:=by kernel_rfl
 c3:=by kernel_rfl
 c4:=by kernel_rfl
 c5:=by kernel_rfl
 c9:=by kernel_rfl
 c20:=by kernel_rfl
 c21:=by kernel_rfl
 c37:=by kernel_rfl
 c46:=by kernel_rfl
 c51:=by kernel_rfl
 c53:=by kernel_rfl
 c75:=by kernel_rfl
 c80:=by kernel_rfl
 c85:=by kernel_rfl
 c127:=by kernel_rfl
 c143:=by kernel_rfl
 c145:=by kernel_rfl
 c167:=by kernel_rfl
 c168:=by kernel_rfl
 c171:=by kernel_rfl
 c173:=by kernel_rfl
 c175:=by kernel_rfl
 c210:=by kernel_rfl
 c212:=by kernel_rfl
 c213:=by kernel_rfl
 c232:=by kernel_rfl
 c233:=by kernel_rfl }
open Go.RowKit in
theorem Tryz.strconv_ParseInt_10_at64_ok (s:ByteArray) (a:s.size≤9223372036854775806) (v:Int) (h:Lib.parseIntB 64 s.data.toList=.ok v) (w:World) :
  Calls Tryz.prog 43 #[.string s,.int .i64 10,.int .i64 64] w fun e w'=>e=.returned (.tuple #[.int .i64 v,.nilIface])∧(w'=w∨∃ t,w'=Lib.bytesWorld w 5 t):=Any.strconv_ParseInt_10_at64_ok Tryz.FG s a v h w
def Tryz.yE:Go.Shelf.Ren:=⟨fun | 144=>108 | 143=>136 | 219=>148 | 217=>156 | 225=>157 | 224=>158 | 267=>159 | 266=>169 | 314=>170 | n=>n,fun | 9=>9 | 4=>4 | 3=>3 | 5=>5 | 46=>227 | 146=>297 | 51=>296 | n=>n,fun | 1=>2 | n=>n⟩
theorem Tryz.zI:Go.Proofs.Lays.n144 Tryz.prog Tryz.yE:={
 mixed:=by kernel_rfl
 f143:=Tryz.func136.trans (congrArg some (by kernel_rfl))
 f144:=Tryz.func108.trans (congrArg some (by kernel_rfl))
 f217:=Tryz.func156.trans (congrArg some (by kernel_rfl))
 f219:=Tryz.func148.trans (congrArg some (by kernel_rfl))
 f224:=Tryz.func158.trans (congrArg some (by kernel_rfl))
 f225:=Tryz.func157.trans (congrArg some (by kernel_rfl))
 f266:=Tryz.func169.trans (congrArg some (by kernel_rfl))
 f267:=Tryz.func159.trans (congrArg some (by kernel_rfl))
 f314:=Tryz.func170.trans (congrArg some (by kernel_rfl))
 t3:=Tryz.underlying3
 a3:=Tryz.isAgg3
 z3:=Tryz.sizeOf3
 v3:=Tryz.zeroValue3
 t4:=Tryz.underlying4
 a4:=Tryz.isAgg4
 z4:=Tryz.sizeOf4
 v4:=Tryz.zeroValue4
 t5:=Tryz.underlying5
 a5:=Tryz.isAgg5
 z5:=Tryz.sizeOf5
 v5:=Tryz.zeroValue5
 t9:=Tryz.underlying9
 a9:=Tryz.isAgg9
 z9:=Tryz.sizeOf9
 v9:=Tryz.zeroValue9
 t46:=Tryz.underlying227
 a46:=Tryz.isAgg227
 z46:=Tryz.sizeOf227
 v46:=Tryz.zeroValue227
 t51:=Tryz.underlying296
 a51:=Tryz.isAgg296
 z51:=Tryz.sizeOf296
 v51:=Tryz.zeroValue296
 t146:=Tryz.underlying297
 a146:=Tryz.isAgg297
 z146:=Tryz.sizeOf297
 v146:=Tryz.zeroValue297
 g1:=by kernel_rfl }
open Go.RowKit Go.Lib in
theorem Tryz.strings_Contains (s sub:ByteArray) (m:Int) (w:World) (hs:s.size<4294967281) (hm:w.cell? ⟨2,0,none⟩=some (.int .i64 m)) :
  Calls Tryz.prog 108 #[.string s,.string sub] w fun e w'=>e=.returned (.bool (Lib.contains s.data.toList sub.data.toList))∧w'=w:=Any.strings_Contains Tryz.zI s sub m w hs hm
def Tryz.zE:Go.Shelf.Ren:=⟨fun | 107=>37 | 108=>68 | n=>n,fun | 28=>39 | 3=>3 | 4=>4 | 0=>0 | n=>n,fun | n=>n⟩
theorem Tryz.yC:Go.Proofs.Lays.n107 Tryz.prog Tryz.zE:={
 mixed:=by kernel_rfl
 f107:=Tryz.func37.trans (congrArg some (by kernel_rfl))
 f108:=Tryz.func68.trans (congrArg some (by kernel_rfl))
 t0:=Tryz.underlying0
 a0:=Tryz.isAgg0
 z0:=Tryz.sizeOf0
 v0:=Tryz.zeroValue0
 t3:=Tryz.underlying3
 a3:=Tryz.isAgg3
 z3:=Tryz.sizeOf3
 v3:=Tryz.zeroValue3
 t4:=Tryz.underlying4
 a4:=Tryz.isAgg4
 z4:=Tryz.sizeOf4
 v4:=Tryz.zeroValue4
 t28:=Tryz.underlying39
 a28:=Tryz.isAgg39
 z28:=Tryz.sizeOf39
 v28:=Tryz.zeroValue39 }
open Go.Lib in
theorem Tryz.slices_Contains_int (b off n c:Nat) (a:List Int) (x:Int) (w:World) (d:n≤a.length) (f:n≤9223372036854775807) (hc:∀ j,j<a.length→w.cell? ⟨b,off+j,none⟩=some (.int .i64 (a.getD j 0))) :
  Calls Tryz.prog 37 #[.slice (some ⟨b,off,none⟩) n c,.int .i64 x] w fun e w'=>e=.returned (.bool ((a.take n).contains x))∧w'=w:=Any.slices_Contains_int Tryz.yC b off n c a x w d f hc
open Go.Lib in
theorem Tryz.slices_Contains_int_empty (a:Option Addr) (c:Nat) (x:Int) (w:World) :
  Calls Tryz.prog 37 #[.slice a 0 c,.int .i64 x] w fun e w'=>e=.returned (.bool false)∧w'=w:=Any.slices_Contains_int_empty Tryz.yC a c x w
def Tryz.AE:Go.Shelf.Ren:=⟨fun | 110=>28 | 109=>55 | n=>n,fun | 31=>49 | 9=>9 | 4=>4 | 3=>3 | 0=>0 | n=>n,fun | n=>n⟩
theorem Tryz.zC:Go.Proofs.Lays.n110 Tryz.prog Tryz.AE:={
 mixed:=by kernel_rfl
 f109:=Tryz.func55.trans (congrArg some (by kernel_rfl))
 f110:=Tryz.func28.trans (congrArg some (by kernel_rfl))
 t0:=Tryz.underlying0
 a0:=Tryz.isAgg0
 z0:=Tryz.sizeOf0
 v0:=Tryz.zeroValue0
 t3:=Tryz.underlying3
 a3:=Tryz.isAgg3
 z3:=Tryz.sizeOf3
 v3:=Tryz.zeroValue3
 t4:=Tryz.underlying4
 a4:=Tryz.isAgg4
 z4:=Tryz.sizeOf4
 v4:=Tryz.zeroValue4
 t9:=Tryz.underlying9
 a9:=Tryz.isAgg9
 z9:=Tryz.sizeOf9
 v9:=Tryz.zeroValue9
 t31:=Tryz.underlying49
 a31:=Tryz.isAgg49
 z31:=Tryz.sizeOf49
 v31:=Tryz.zeroValue49 }
open Go.Lib in
theorem Tryz.slices_Contains_string (b off n c:Nat) (a:List ByteArray) (x:ByteArray) (w:World) (d:n≤a.length) (f:n≤9223372036854775807) (hc:∀ j,j<a.length→w.cell? ⟨b,off+j,none⟩=some (.string (a.getD j ByteArray.empty))) :
  Calls Tryz.prog 28 #[.slice (some ⟨b,off,none⟩) n c,.string x] w fun e w'=>e=.returned (.bool (Lib.containsS (a.take n) x))∧w'=w:=Any.slices_Contains_string Tryz.zC b off n c a x w d f hc
open Go.Lib in
theorem Tryz.slices_Contains_string_empty (a:Option Addr) (c:Nat) (x:ByteArray) (w:World) :
  Calls Tryz.prog 28 #[.slice a 0 c,.string x] w fun e w'=>e=.returned (.bool false)∧w'=w:=Any.slices_Contains_string_empty Tryz.zC a c x w
def Tryz.gE:Go.Shelf.Ren:=⟨fun | 15=>121 | n=>n,fun | 22=>39 | 3=>3 | 4=>4 | n=>n,fun | n=>n⟩
theorem Tryz.Fy:Go.Proofs.Lays2.n15 Tryz.prog Tryz.gE:={
 mixed:=by kernel_rfl
 f15:=Tryz.func121.trans (congrArg some (by kernel_rfl))
 t3:=Tryz.underlying3
 a3:=Tryz.isAgg3
 z3:=Tryz.sizeOf3
 v3:=Tryz.zeroValue3
 t4:=Tryz.underlying4
 a4:=Tryz.isAgg4
 z4:=Tryz.sizeOf4
 v4:=Tryz.zeroValue4
 t22:=Tryz.underlying39
 a22:=Tryz.isAgg39
 z22:=Tryz.sizeOf39
 v22:=Tryz.zeroValue39
 i3:=by kernel_rfl }
open Go.RowKit Go.Lib in
theorem Tryz.slices_Clone_int (b off n c:Nat) (a:List Int) (w:World) (f:n≤a.length) (g:n*8≤140737488355328) (hc:∀ j,j<a.length→w.cell? ⟨b,off+j,none⟩=some (.int .i64 (a.getD j 0))) :
  Calls Tryz.prog 121 #[.slice (some ⟨b,off,none⟩) n c] w fun e w'=>∃ d,e=.returned d∧w'.ownsRow w.heap.size 3 1 d n ((a.take n).map (Value.int .i64))∧d≠.slice none 0 0∧Below w.heap.size w w':=Any.slices_Clone_int Tryz.Fy b off n c a w f g hc
open Go.RowKit Go.Lib in
theorem Tryz.slices_Clone_int_nil (n c:Nat) (w:World) :
  Calls Tryz.prog 121 #[.slice none n c] w fun e w'=>e=.returned (.slice none 0 0)∧w'=w:=Any.slices_Clone_int_nil Tryz.Fy n c w
open Go.RowKit Go.Lib in
theorem Tryz.slices_Clone_int_zero (a:Addr) (c:Nat) (w:World) :
  Calls Tryz.prog 121 #[.slice (some a) 0 c] w fun e w'=>∃ b,e=.returned b∧w'.ownsRow w.heap.size 3 1 b 0 []∧b≠.slice none 0 0∧Below w.heap.size w w':=Any.slices_Clone_int_zero Tryz.Fy a c w
def Tryz.bE:Go.Shelf.Ren:=⟨fun | 41=>122 | n=>n,fun | 22=>207 | 23=>4 | 4=>4 | n=>n,fun | n=>n⟩
theorem Tryz.HA:Go.Proofs.SlLaysE0.n41 Tryz.prog Tryz.bE:={
 mixed:=by kernel_rfl
 f41:=⟨Tryz.f122.name,by decide,Tryz.func122.trans (congrArg some (by kernel_rfl))⟩
 t4:=Tryz.underlying4
 a4:=Tryz.isAgg4
 z4:=Tryz.sizeOf4
 v4:=Tryz.zeroValue4
 t22:=Tryz.underlying207
 a22:=Tryz.isAgg207
 z22:=Tryz.sizeOf207
 v22:=Tryz.zeroValue207 }
open Go.RowKit Go.Lib in
theorem Tryz.dE (i0:TypeInfo) (z:Value) (size bytes:Nat) (Ua:Tryz.prog.info? 4=some i0) (d:i0.zero=some z) (f:i0.size=size) (g:i0.bytes=bytes) (h:z.cells.size=size) (i:0<size) (z23:∀ w,(Go.sizeOf 4).run Tryz.prog w=.ok size w) (b off n c:Nat) (news:List Value) (w:World) (k:news.length=n*size) (l:n≤maxLen) (m:n*bytes≤140737488355328) (hc:∀ j u,news[j]?=some u→w.cell? ⟨b,off+j,none⟩=some u) (o:∀ u ∈ news,u.oneCell'=true) :
  Calls Tryz.prog 122 #[.slice (some ⟨b,off,none⟩) n c] w fun e w'=>∃ a,e=.returned a∧w'.ownsRow w.heap.size 4 size a n news∧a≠.slice none 0 0∧Below w.heap.size w w':=AnyE.slices_Clone Tryz.HA i0 z size bytes Ua d f g h i z23 b off n c news w k l m hc o
open Go.RowKit Go.Lib in
theorem Tryz.aE (n c:Nat) (w:World) :
  Calls Tryz.prog 122 #[.slice none n c] w fun e w'=>e=.returned (.slice none 0 0)∧w'=w:=AnyE.slices_Clone_nil Tryz.HA n c w
end Go.Proofs
namespace Go.Proofs
open Go.Shelf
def Tryz.hE : Go.Shelf.Ren := ⟨fun | 24 => 29 | n => n, fun | 24 => 49 | 9 => 9 | 3 => 3 | 4 => 4 | 0 => 0 | n => n, fun | n => n⟩
theorem Tryz.zB : Go.Proofs.Lays2.n24 Tryz.prog Tryz.hE := {
  mixed := by kernel_rfl
  f24 := Tryz.func29.trans (congrArg some (by kernel_rfl))
  t0 := Tryz.underlying0
  a0 := Tryz.isAgg0
  z0 := Tryz.sizeOf0
  v0 := Tryz.zeroValue0
  t3 := Tryz.underlying3
  a3 := Tryz.isAgg3
  z3 := Tryz.sizeOf3
  v3 := Tryz.zeroValue3
  t4 := Tryz.underlying4
  a4 := Tryz.isAgg4
  z4 := Tryz.sizeOf4
  v4 := Tryz.zeroValue4
  t9 := Tryz.underlying9
  a9 := Tryz.isAgg9
  z9 := Tryz.sizeOf9
  v9 := Tryz.zeroValue9
  t24 := Tryz.underlying49
  a24 := Tryz.isAgg49
  z24 := Tryz.sizeOf49
  v24 := Tryz.zeroValue49
  i9 := by kernel_rfl }
open Go.RowKit Go.Lib Go.Sort in
theorem Tryz.slices_Delete_string (ba off cap i j : Nat) (a : List (List UInt8)) (w : World) (b : Holds encStr w ba off a.toArray) (c : a.length ≤ cap) (hm : cap ≤ 9223372036854775807) (d : i ≤ j) (f : j ≤ a.length) :
    Calls Tryz.prog 29 #[.slice (some ⟨ba, off, none⟩) a.length cap, .int .i64 i, .int .i64 j] w fun e w' => e = .returned (.slice (some ⟨ba, off, none⟩) (a.length - (j - i)) cap) ∧ ∃ q, w' = putRow encStr (Sort.ahead w q) ba off (a.take i ++ a.drop j ++ List.replicate (j - i) []).toArray := Any.slices_Delete_string Tryz.zB ba off cap i j a w b c hm d f
open Go.RowKit Go.Lib in
theorem Tryz.slices_Delete_string_empty (a : Option Addr) (c : Nat) (w : World) :
    Calls Tryz.prog 29 #[.slice a 0 c, .int .i64 0, .int .i64 0] w fun e w' => e = .returned (.slice a 0 c) ∧ w' = w := Any.slices_Delete_string_empty Tryz.zB a c w
end Go.Proofs
namespace Go.Proofs.YtbhncpgjmkcdcaaGreatDoor
open Go.yb Go.kc Go.Y Tryz
def Ab:M:=fun w=>∃ m,w.cell? ⟨2,0,none⟩=some (.int .i64 m)
theorem fK {E:M}{w0 w:World}{J:List kb}{l:List UInt8}{r:Int}(g:rA l=some r) (b:ha E w0 w J) :
  sb prog 43 [S l,.int .i64 10,.int .i64 64] w (fun v w'=>v=.tuple ⟨[.int .i64 r,.nilIface]⟩∧ha E w0 w' J):=by
 unfold rA at g;split at g
 ·rename_i c;cases a:Lib.parseIntB 64 l with
  | ok v =>
   rw [a] at g;obtain rfl:=Option.some.inj g;refine ⟨(strconv_ParseInt_10_at64_ok ⟨⟨l⟩⟩ c v a w).mono fun e w' he=>?_⟩;obtain ⟨rfl,hw⟩:=he;refine ⟨rfl,?_⟩;rcases hw with rfl | ⟨t,rfl⟩
   ·exact b
   ·have h:=Lib.bytesWorld_below w 5 t;exact b.grow ⟨h.os,h.tape,h.output,h.size,fun k d _=>h.block k d⟩
  | _=>rw [a] at g; cases g
 ·cases g
theorem AI {E:M}{w0 w:World}{J:List kb}{l sub:List UInt8}{b:Bool}(d:da Ab E) (g:Tz l sub=some b) (c:ha E w0 w J) :
  sb prog 108 [S l,S sub] w (fun v w'=>v=.bool b∧ha E w0 w' J):=by
 unfold Tz at g;split at g
 ·rename_i f;obtain rfl:=Option.some.inj g;obtain ⟨m,hm⟩:=d w c.a;refine ⟨(strings_Contains ⟨⟨l⟩⟩ ⟨⟨sub⟩⟩ m w f hm).mono fun e w' he=>?_⟩;obtain ⟨rfl,rfl⟩:=he;exact ⟨rfl,c⟩
 ·cases g
end Go.Proofs.YtbhncpgjmkcdcaaGreatDoor
namespace Go.Proofs.YtbhncpgjmkcdcaaGreatDoor
open Go.yb Go.kc Go.Y Go.RowKit Tryz
section
variable {μ E:M}{w0 w:World}{J rs:List kb}
def Hr (w:World) (v:Value) (vs:List Value):Prop:=(vs=[]∧∃ a c,v=.slice a 0 c)∨∃ b o c,v=.slice (some ⟨b,o,none⟩) vs.length c∧vs.length≤9223372036854775807∧∀ j y,vs[j]?=some y→w.cell? ⟨b,o+j,none⟩=some y
theorem az {α:Type}[Ha α]{f:α→Value}(a:∀ (μ:M) (l:List Value) (x:α),Ha.cs μ l x→l=[f x]):∀ {l:List α}{cells:List Value},na μ cells l→cells=l.map f
 | [],cells,h=>by rw [na] at h; simp [h]
 | x::l,cells,h=>by
  rw [na] at h;obtain ⟨cs,t,rfl,b,c⟩:=h;rw [a _ _ _ b,az a c];rfl
theorem jt {α:Type}[Ha α]{f:α→Value}(c:∀ (μ:M) (l:List Value) (x:α),Ha.cs μ l x→l=[f x]){v:Value}{T:TypeId}{l:List α}{cells:List Value}(h:Row w v T 1 l.length cells) (d:na μ cells l):Hr w v (l.map f):=by
 have e:=az c d;subst e;rcases h.2 with ⟨rfl,b⟩ | ⟨g,o,cap,cur,rfl,i,k,b,n,m⟩
 ·exact .inl ⟨by rw [List.length_eq_zero_iff.1 b];rfl,none,0,rfl⟩
 ·refine .inr ⟨g,o,cap,by simp,by simp;exact Nat.le_trans k (Nat.le_trans b (by decide)),fun j y a=>?_⟩;rw [cell_of_row w g (o+j) cur T (0,0) i];rw [← m,List.getElem?_take] at a;split at a
  ·rw [List.getElem?_drop] at a;simpa using a
  ·cases a
theorem dw {α:Type}[Ha α]{f:α→Value}(g:∀ (μ:M) (l:List Value) (x:α),Ha.cs μ l x→l=[f x]) (i:Ha.sz α=1){a:Option Addr}{c:Nat}{l:List α}(h:Ba μ a c l) (hw:μ w):Hr w (.slice a l.length c) (l.map f):=by
 rcases h.el with rfl | ⟨b,o,rfl,p,k⟩
 ·exact .inl ⟨rfl,a,c,rfl⟩
 ·refine .inr ⟨b,o,c,by simp,by simp;exact Ba.len h,fun j y d=>?_⟩;simp only [List.getElem?_map,Option.map_eq_some_iff] at d;obtain ⟨x,m,rfl⟩:=d;obtain ⟨e,n⟩:=k j x m;rw [g _ _ _ n,i] at e;have:=e w hw 0 _ rfl;simpa using this
theorem wx (μ:M) (l:List Value) (x:List UInt8) (h:Ha.cs μ l x):l=[S x]:=h
theorem yx (μ:M) (l:List Value) (x:Int) (h:Ha.cs μ l x):l=[.int .i64 x]:=h
theorem Xx {v:Value}{l:List (List UInt8)}{x:List UInt8}(h:Hr w v (l.map S)):sb prog 28 [v,S x] w (fun v w'=>v=.bool (l.contains x)∧w'=w):=by
 rcases h with ⟨f,a,c,rfl⟩ | ⟨b,o,c,rfl,g,hc⟩
 ·obtain rfl:l=[]:=List.map_eq_nil_iff.1 f;exact ⟨(slices_Contains_string_empty a c ⟨⟨x⟩⟩ w).mono fun e w' he=>by
   obtain ⟨rfl,rfl⟩:=he;exact ⟨rfl,rfl⟩⟩
 ·refine ⟨(slices_Contains_string b o (l.map S).length c (l.map fun y=>⟨⟨y⟩⟩) ⟨⟨x⟩⟩ w (by simp) g ?_).mono fun e w' he=>?_⟩
  ·intro j i;have d:j<l.length:=by simpa using i
   rw [hc j (S l[j]) (by simp [d])];simp [List.getElem?_eq_getElem d,S]
  ·obtain ⟨rfl,rfl⟩:=he;refine ⟨?_,rfl⟩;congr 1;rw [List.take_of_length_le (by simp),Bool.eq_iff_iff,Lib.containsS_iff,List.contains_iff_mem];constructor
   ·intro hm;obtain ⟨y,m,e⟩:=List.mem_map.1 hm;have k:y=x:=congrArg (fun b:ByteArray=>b.data.toList) e;rwa [← k]
   ·exact fun hm=>List.mem_map.2 ⟨x,hm,rfl⟩
theorem KA {v:Value}{l:List Int}{x:Int}(h:Hr w v (l.map (Value.int .i64))):sb prog 37 [v,.int .i64 x] w (fun v w'=>v=.bool (l.contains x)∧w'=w):=by
 rcases h with ⟨f,a,c,rfl⟩ | ⟨b,o,c,rfl,g,hc⟩
 ·obtain rfl:l=[]:=List.map_eq_nil_iff.1 f;exact ⟨(slices_Contains_int_empty a c x w).mono fun e w' he=>by
   obtain ⟨rfl,rfl⟩:=he;exact ⟨rfl,rfl⟩⟩
 ·refine ⟨(slices_Contains_int b o (l.map (Value.int .i64)).length c l x w (by simp) g ?_).mono fun e w' he=>?_⟩
  ·intro j d;rw [hc j (.int .i64 l[j]) (by simp [d])];simp [List.getElem?_eq_getElem d]
  ·obtain ⟨rfl,rfl⟩:=he;refine ⟨?_,rfl⟩;rw [List.take_of_length_le (by simp)]
theorem AB {v:Value}{l:List Int}(r:l.length≤65536) (h:Hr w v (l.map (Value.int .i64))) (i:ha E w0 w rs) :
  sb prog 121 [v] w (fun m w'=>ha E w0 w' (.row m 3 1 l.length (l.map (Value.int .i64))::rs)):=by
 rcases h with ⟨q,a,c,rfl⟩ | ⟨b,o,c,rfl,s,hc⟩
 ·obtain rfl:l=[]:=List.map_eq_nil_iff.1 q;cases a with
  | none=>exact ⟨(slices_Clone_int_nil 0 c w).mono fun e w' he=>by
    obtain ⟨rfl,rfl⟩:=he;exact i.Sh 3 1⟩
  | some a=>exact ⟨(slices_Clone_int_zero a c w).mono fun e w' he=>by
    obtain ⟨m,rfl,g,-,d⟩:=he;obtain ⟨n,f⟩:=ay g;exact i.newRow ⟨d.os,d.tape,d.output,d.size,fun k f _=>d.block k f⟩ n f⟩
 ·refine ⟨(slices_Clone_int b o (l.map (Value.int .i64)).length c l w (by simp) (by simp;omega) ?_).mono fun e w' he=>?_⟩
  ·intro j p;rw [hc j (.int .i64 l[j]) (by simp [p])];simp [List.getElem?_eq_getElem p]
  ·obtain ⟨m,rfl,g,-,d⟩:=he;rw [List.take_of_length_le (by simp),List.length_map] at g;obtain ⟨n,f⟩:=ay g;exact i.newRow ⟨d.os,d.tape,d.output,d.size,fun k f _=>d.block k f⟩ n f
theorem BB {v:Value}{l:List Bool}(C:l.length≤65536) (h:Hr w v (l.map Value.bool)) (d:ha E w0 w rs) :
  sb prog 122 [v] w (fun s w'=>ha E w0 w' (.row s 4 1 l.length (l.map Value.bool)::rs)):=by
 rcases h with ⟨f,a,c,rfl⟩ | ⟨b,o,c,rfl,D,hc⟩
 ·obtain rfl:l=[]:=List.map_eq_nil_iff.1 f;cases a with
  | none=>exact ⟨(aE 0 c w).mono fun e w' he=>by
    obtain ⟨rfl,rfl⟩:=he;exact d.Sh 4 1⟩
  | some a =>
   refine enter func122 rfl (frm:=[_,_,_,_,_,_,_,_]) rfl ?_;refine xa ?_;refine Aa ?_;refine wl (Zi Fa (ia Ta) ?_);refine ta ?_;refine ma ?_;refine xa ?_;refine xa ?_;refine Aa ?_;refine wl (rh (aa d0) (ia Qb) ?_);refine wl (PH underlying207 (aa d3) (ia Rb) ?_);refine ta ?_;refine ma ?_;refine Ql (aa d4) ?_;refine Ra ?_;refine ma ?_;refine xa ?_;refine Aa ?_;refine wl (sJ underlying207 qk d ?_);clear d;intro F G H d;refine pu (ia Yb) ?_;replace d:=d.Rp (n:=0) (sz:=Ha.sz Bool) d0 rfl (by decide) ya;refine wl (rh (aa d0) (ia ec) ?_);refine wl (xz (α:=Bool) (l:=[]) (ys:=[]) (news:=[]) underlying207 qk rfl (aa d5) (aa d6) d d0 (fun e=>absurd rfl e) rfl (show app [] []=some [] from rfl) (by decide) ?_);clear d;intro v2 K y A d;cases (show _=y from A);replace d:=Sep.nf d ya;refine pu (ia Ib) ?_;refine wl (Zi (aa d7) (ia Ta) ?_);refine ta ?_;refine ma ?_;refine Xa ?_;refine Jb rfl d2 ?_;exact d
 ·have Ua:∃ i z,prog.info? 4=some i∧i.zero=some z∧i.size=1∧i.bytes=1∧z.cells.size=1:=by
   obtain ⟨i,z,f,j,m,p,q⟩:=(qk).inf;exact ⟨i,z,f,j,p,q,by rw [m];rfl⟩
  obtain ⟨i,z,f,j,m,p,q⟩:=Ua;refine ⟨(dE i z 1 1 f j m p q (by decide) (fun w=>(qk).sizeOf) b o (l.map Value.bool).length c (l.map Value.bool) w (by simp) (by simp [maxLen];omega) (by simp;omega) hc (fun u hu=>?_)).mono fun e w' he=>?_⟩
  ·obtain ⟨x,-,rfl⟩:=List.mem_map.1 hu;rfl
  ·obtain ⟨s,rfl,t,-,g⟩:=he;rw [List.length_map] at t;obtain ⟨B,r⟩:=ay t;exact d.newRow ⟨g.os,g.tape,g.output,g.size,fun k r _=>g.block k r⟩ B r
theorem CD (μ:M) (l:List Value) (x:Bool) (h:Ha.cs μ l x):l=[.bool x]:=h
theorem kt {α:Type}[Ha α]{f:α→Value}(a:∀ (μ:M) (x:α),Ha.cs μ [f x] x):∀ (l:List α),na μ (l.map f) l
 | []=>rfl
 | x::l=>⟨[f x],_,rfl,a μ x,kt a l⟩
end
end Go.Proofs.YtbhncpgjmkcdcaaGreatDoor
namespace Go.Proofs.YtbhncpgjmkcdcaaGreatDoor
open Go.yb Go.kc Go.Y Go.RowKit
section
variable {μ E : M}{w0 w : World}{J rs : List kb}
theorem hB {μ : M} : ∀ (l : List (List UInt8)), na μ (l.map S) l
  | [] => rfl
  | x :: l => ⟨[S x], _, rfl, rfl, hB l⟩
theorem BI {v : Value}{T : TypeId}{cells : List Value}{l d : List (List UInt8)}{i j : Int}(y : na E cells l) (g : mx l i j = some d) (t : ha E w0 w (.row v T 1 l.length cells :: J)) :
    sb Tryz.prog 29 [v, .int .i64 i, .int .i64 j] w (fun a w' => ∃ c, na E c d ∧ ha E w0 w' (.row a T 1 d.length c :: J)):= by
  obtain ⟨⟨F, G, z⟩, rfl⟩ := del_eq g;obtain ⟨i, rfl⟩ : ∃ n : Nat, i = n := ⟨i.toNat, by omega⟩;obtain ⟨j, rfl⟩ : ∃ n : Nat, j = n := ⟨j.toNat, by omega⟩;simp only [Int.toNat_natCast];have f : Row w v T 1 l.length cells := t.all _ (List.mem_cons_self ..);have Fa : cells = l.map S := az wx y;subst Fa;have mk : ∀ (w' : World) (a : Value) (ys : List (List UInt8)), Row w' a T 1 ys.length (ys.map S) → Eh (fun b => some b ≠ v.ownBlock) w w' → a.ownBlock = v.ownBlock → ∃ c, na E c ys ∧ ha E w0 w' (.row a T 1 ys.length c :: J):= fun w' a ys m p u =>
    ⟨ys.map S, hB ys, Sep.row t (d0 (α := kb)) (ya (α := kb)) m p (.inl u)⟩
  rcases f.2 with ⟨rfl, A⟩ | ⟨b, o, cap, cur, rfl, x, m, p, u, B⟩
  · obtain rfl := List.eq_nil_of_length_eq_zero A;obtain rfl : j = 0 := by simp at z;omega
    obtain rfl : i = 0 := by omega
    exact ⟨(Tryz.slices_Delete_string_empty none 0 w).mono fun e w' he => by
      obtain ⟨rfl, rfl⟩ := he;exact mk _ _ [] f (Eh.refl _) rfl⟩
  · refine ⟨(Tryz.slices_Delete_string b o cap i j l w ?_ m p (by omega) (by omega)).mono fun e w' he => ?_⟩
    · intro k r;have s : k < l.length := by simpa using r
      refine ⟨?_, XE x⟩;rw [cell_of_row w b (o + k) cur T (0, 0) x];have qa : (l.map S)[k]? = some (S l[k]):= by simp [s]
      rw [← B, List.getElem?_take, Nat.mul_one, if_pos s, List.getElem?_drop] at qa;rw [← Array.getElem?_toList, qa];congr 1;rw [getElem!_pos _ k (by simpa using s)];rfl
    · obtain ⟨rfl, q, rfl⟩ := he;obtain ⟨C, D⟩ := SH (q := q) f (show i ≤ j by omega) (show j ≤ l.length by omega);have len : (l.take i ++ l.drop j).length = l.length - (j - i):= by simp;omega
      have := mk _ _ _ C (D.mono fun k r h => r (by rw [h];rfl)) rfl;rw [len] at this ⊢;exact this
end
end Go.Proofs.YtbhncpgjmkcdcaaGreatDoor
