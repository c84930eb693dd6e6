/- Texts of Fl. -/
import Derived.Test.YtbhncpgjmkcdcaaGreatDoorCXt
import Derived.Test.YtbhncpgjmkcdcaaGreatDoorProg
import Derived.KernelRfl
import Derived.Shelf.Strconv.Itoa0
import Derived.Shelf.Strconv.Itoa1
import Derived.Shelf.LaysM
import Derived.Shelf.Strconv.Itoa2
import Derived.Shelf.Strconv.Itoa3
import Derived.Shelf.Strconv.ParseIntEmpty
import Derived.Shelf.Strconv.Clone
import Derived.Shelf.Strconv.SyntaxError
import Derived.Shelf.LaysC
import Derived.Shelf.Strconv.ToError
import Derived.Shelf.Strconv.Lower
import Derived.Shelf.Strconv.ParseUint10
import Derived.Shelf.Strconv.ParseUint10Empty
import Derived.Shelf.Strconv.ParseUint10Any
import Derived.Shelf.Strconv.ParseInt10
import Derived.Shelf.Strconv.RangeError
import Derived.Shelf.Strconv.ToErrorRange
import Derived.Shelf.Strconv.ParseUintEmpty
import Derived.Shelf.Strconv.ParseUint10b64
import Derived.Shelf.Strconv.ParseUint10b32
import Derived.Shelf.Strconv.ParseUint10b16
import Derived.Shelf.Strconv.ParseUint10b8
import Derived.Shelf.Strconv.ParseUint10At
import Derived.Shelf.Strconv.ParseInt10At64
import Derived.Shelf.Strconv.ParseInt10At32
import Derived.Shelf.Strconv.ParseInt10At16
import Derived.Shelf.Strconv.ParseInt10At8
import Derived.Shelf.Strconv.ParseInt10All
import Derived.Shelf.Strconv.ParseIntPublic10
import Derived.Shelf.Strings.Search1
import Derived.Shelf.Strings.Search2
import Derived.Shelf.Strings.Search3
import Derived.Shelf.Strings.Shaped
import Derived.Shelf.Strings.Prefix
import Derived.Shelf.Slices.Turned
import Derived.Ground.Names2Prog
import Derived.Shelf.Slices.Clone
import Derived.Shelf.Slices.Delete
import Derived.Shelf.Slices.Empties
import Derived.Ground.SlgnProg
import Derived.Shelf.SlicesE.Clone
import Derived.Test.YtbhncpgjmkcdcaaGreatDoorCMd
import Derived.Test.YtbhncpgjmkcdcaaGreatDoorCXu
import Derived.Lib.SlicesS
set_option linter.unusedSimpArgs false
set_option linter.unusedVariables false
set_option linter.unusedSectionVars false
namespace Go.Proofs.YtbhncpgjmkcdcaaGreatDoor
open Go.Ab Go.jc Tryz
instance TP:Hb prog 5:=Pb func5
instance UP:Hb prog 6:=Pb func6
instance VP:Hb prog 7:=Pb func7
instance XP:Hb prog 8:=Pb func8
instance YP:Hb prog 9:=Pb func9
instance DO:Hb prog 10:=Pb func10
instance EO:Hb prog 11:=Pb func11
instance FO:Hb prog 12:=Pb func12
instance GO:Hb prog 13:=Pb func13
instance HO:Hb prog 14:=Pb func14
instance iK:Hb prog 15:=Pb func15
instance JO:Hb prog 16:=Pb func16
instance jK:Hb prog 17:=Pb func17
instance KO:Hb prog 19:=Pb func19
instance kK:Hb prog 20:=Pb func20
instance LO:Hb prog 21:=Pb func21
instance MO:Hb prog 22:=Pb func22
instance NO:Hb prog 23:=Pb func23
instance lK:Hb prog 24:=Pb func24
instance mK:Hb prog 25:=Pb func25
instance nK:Hb prog 26:=Pb func26
instance oK:Hb prog 27:=Pb func27
instance Yz:Hb prog 28:=Pb func28
instance pK:Hb prog 29:=Pb func29
instance OO:Hb prog 30:=Pb func30
instance qK:Hb prog 31:=Pb func31
instance PO:Hb prog 32:=Pb func32
instance rK:Hb prog 33:=Pb func33
instance sK:Hb prog 34:=Pb func34
instance tK:Hb prog 35:=Pb func35
instance uK:Hb prog 36:=Pb func36
instance qx:Hb prog 37:=Pb func37
instance QO:Hb prog 38:=Pb func38
instance vK:Hb prog 39:=Pb func39
instance Zz:Hb prog 40:=Pb func40
instance wK:Hb prog 41:=Pb func41
instance aA:Hb prog 42:=Pb func42
instance xK:Hb prog 43:=Pb func43
instance RO:Hb prog 44:=Pb func44
instance SO:Hb prog 45:=Pb func45
instance TO:Hb prog 46:=Pb func46
instance UO:Hb prog 47:=Pb func47
instance VO:Hb prog 48:=Pb func48
instance WO:Hb prog 49:=Pb func49
instance XO:Hb prog 51:=Pb func51
instance YO:Hb prog 52:=Pb func52
instance ZO:Hb prog 53:=Pb func53
instance aP:Hb prog 54:=Pb func54
instance bP:Hb prog 56:=Pb func56
instance cP:Hb prog 57:=Pb func57
instance dP:Hb prog 58:=Pb func58
instance qD:Hb prog 59:=Pb func59
instance yK:Hb prog 60:=Pb func60
instance rD:Hb prog 61:=Pb func61
instance sD:Hb prog 62:=Pb func62
instance bA:Hb prog 63:=Pb func63
instance eP:Hb prog 64:=Pb func64
instance fP:Hb prog 65:=Pb func65
instance gP:Hb prog 66:=Pb func66
instance hP:Hb prog 67:=Pb func67
instance iP:Hb prog 72:=Pb func72
instance jP:Hb prog 73:=Pb func73
instance tD:Hb prog 74:=Pb func74
instance kP:Hb prog 75:=Pb func75
instance lP:Hb prog 76:=Pb func76
instance mP:Hb prog 77:=Pb func77
instance nP:Hb prog 78:=Pb func78
instance oP:Hb prog 79:=Pb func79
instance pP:Hb prog 80:=Pb func80
instance zK:Hb prog 81:=Pb func81
instance sx:Hb prog 82:=Pb func82
instance qP:Hb prog 83:=Pb func83
instance rP:Hb prog 84:=Pb func84
instance sP:Hb prog 85:=Pb func85
instance AK:Hb prog 86:=Pb func86
instance tP:Hb prog 87:=Pb func87
instance uD:Hb prog 88:=Pb func88
instance BK:Hb prog 89:=Pb func89
instance CK:Hb prog 90:=Pb func90
instance DK:Hb prog 91:=Pb func91
instance EK:Hb prog 92:=Pb func92
instance uP:Hb prog 93:=Pb func93
instance vP:Hb prog 94:=Pb func94
instance vD:Hb prog 95:=Pb func95
instance FK:Hb prog 96:=Pb func96
instance GK:Hb prog 97:=Pb func97
instance wP:Hb prog 98:=Pb func98
instance xP:Hb prog 99:=Pb func99
instance BI:Hb prog 100:=Pb func100
instance dN:Hb prog 101:=Pb func101
instance eN:Hb prog 107:=Pb func107
instance CI:Hb prog 108:=Pb func108
instance DI:Hb prog 109:=Pb func109
instance LC:Hb prog 110:=Pb func110
instance fN:Hb prog 111:=Pb func111
instance gN:Hb prog 112:=Pb func112
instance EI:Hb prog 113:=Pb func113
instance FI:Hb prog 114:=Pb func114
instance hN:Hb prog 115:=Pb func115
instance GI:Hb prog 116:=Pb func116
instance HI:Hb prog 117:=Pb func117
instance II:Hb prog 118:=Pb func118
instance iN:Hb prog 119:=Pb func119
instance JI:Hb prog 120:=Pb func120
instance MC:Hb prog 121:=Pb func121
instance NC:Hb prog 122:=Pb func122
instance OC:Hb prog 123:=Pb func123
instance Hz:Hb prog 124:=Pb func124
instance jN:Hb prog 125:=Pb func125
instance kN:Hb prog 126:=Pb func126
instance lN:Hb prog 127:=Pb func127
instance mN:Hb prog 128:=Pb func128
instance PC:Hb prog 129:=Pb func129
instance nN:Hb prog 130:=Pb func130
instance oN:Hb prog 137:=Pb func137
instance pN:Hb prog 138:=Pb func138
instance QC:Hb prog 140:=Pb func140
instance KI:Hb prog 141:=Pb func141
instance qN:Hb prog 142:=Pb func142
instance rN:Hb prog 143:=Pb func143
instance sN:Hb prog 144:=Pb func144
instance tN:Hb prog 145:=Pb func145
instance uN:Hb prog 146:=Pb func146
instance vN:Hb prog 149:=Pb func149
instance wN:Hb prog 150:=Pb func150
instance xN:Hb prog 151:=Pb func151
instance RC:Hb prog 152:=Pb func152
instance LI:Hb prog 153:=Pb func153
instance MI:Hb prog 154:=Pb func154
instance yN:Hb prog 160:=Pb func160
instance zN:Hb prog 161:=Pb func161
instance NI:Hb prog 163:=Pb func163
instance AN:Hb prog 173:=Pb func173
instance OI:Hb prog 199:=Pb func199
instance PI:Hb prog 200:=Pb func200
instance QI:Hb prog 201:=Pb func201
instance RI:Hb prog 202:=Pb func202
instance BN:Hb prog 203:=Pb func203
instance CN:Hb prog 204:=Pb func204
instance DN:Hb prog 205:=Pb func205
instance EN:Hb prog 206:=Pb func206
instance th:qc prog 2 false [.int .i64 0] 1 8:=Xd (z:=.int .i64 0) underlying2
instance Ka:qc prog 3 false [.int .i64 0] 1 8:=Xd (z:=.int .i64 0) underlying3
instance wk:qc prog 4 false [.bool false] 1 1:=Xd (z:=.bool false) underlying4
instance ef:qc prog 9 false [S []] 1 16:=Xd (z:=S []) underlying9
instance Ox:qc prog 22 false [.slice none 0 0] 1 24:=Xd (z:=.slice none 0 0) underlying22
instance vl:qc prog 23 false [.slice none 0 0] 1 24:=Xd (z:=.slice none 0 0) underlying23
instance ZP:qc prog 25 true [.slice none 0 0,.slice none 0 0] 2 48:=Xd (z:=.agg #[.slice none 0 0,.slice none 0 0]) underlying25
instance Is:qc prog 28 false [.slice none 0 0] 1 24:=Xd (z:=.slice none 0 0) underlying28
instance Mu:qc prog 29 false [.slice none 0 0] 1 24:=Xd (z:=.slice none 0 0) underlying29
instance Vi:qc prog 31 true [.slice none 0 0,.slice none 0 0,.int .i64 0] 3 56:=Xd (z:=.agg #[.slice none 0 0,.slice none 0 0,.int .i64 0]) underlying31
instance nq:qc prog 32 false [.int .i64 0] 1 8:=Xd (z:=.int .i64 0) underlying32
instance mi:qc prog 35 false [.slice none 0 0] 1 24:=Xd (z:=.slice none 0 0) underlying35
instance fp:qc prog 37 true [.int .i64 0,.int .i64 0,.int .i64 0,.slice none 0 0] 4 48:=Xd (z:=.agg #[.int .i64 0,.int .i64 0,.int .i64 0,.slice none 0 0]) underlying37
instance Fj:qc prog 39 false [.slice none 0 0] 1 24:=Xd (z:=.slice none 0 0) underlying39
instance gp:qc prog 44 false [.slice none 0 0] 1 24:=Xd (z:=.slice none 0 0) underlying44
instance Yf:qc prog 46 true [.int .i64 0,.int .i64 0] 2 16:=Xd (z:=.agg #[.int .i64 0,.int .i64 0]) underlying46
instance Rh:qc prog 49 false [.slice none 0 0] 1 24:=Xd (z:=.slice none 0 0) underlying49
instance rk:qc prog 55 false [.pointer none] 1 8:=Xd (z:=.pointer none) underlying55
instance Px:qc prog 57 true [.int .i64 0,.int .i64 0] 2 16:=Xd (z:=.agg #[.int .i64 0,.int .i64 0]) underlying57
instance sk:qc prog 59 true [.int .i64 0,.int .i64 0] 2 16:=Xd (z:=.agg #[.int .i64 0,.int .i64 0]) underlying59
instance cn:qc prog 64 false [.slice none 0 0] 1 24:=Xd (z:=.slice none 0 0) underlying64
instance Ki:qc prog 66 true [.int .i64 0,.int .i64 0,.slice none 0 0,.int .i64 0,.int .i64 0,.slice none 0 0] 6 80:=Xd (z:=.agg #[.int .i64 0,.int .i64 0,.slice none 0 0,.int .i64 0,.int .i64 0,.slice none 0 0]) underlying66
instance Sn:qc prog 68 false [.slice none 0 0] 1 24:=Xd (z:=.slice none 0 0) underlying68
instance aQ:qc prog 73 false [.pointer none] 1 8:=Xd (z:=.pointer none) underlying73
instance DM:qc prog 75 true [.slice none 0 0,.int .i64 0,.int .i64 0] 3 40:=Xd (z:=.agg #[.slice none 0 0,.int .i64 0,.int .i64 0]) underlying75
instance Sh:qc prog 79 true [.int .i64 0,S []] 2 24:=Xd (z:=.agg #[.int .i64 0,S []]) underlying79
instance EM:qc prog 81 false [.slice none 0 0] 1 24:=Xd (z:=.slice none 0 0) underlying81
instance zh:qc prog 83 true [.int .i64 0,S [],.int .i64 0,S [],.int .i64 0,S [],.int .i64 0,.slice none 0 0,.slice none 0 0] 9 128:=Xd (z:=.agg #[.int .i64 0,S [],.int .i64 0,S [],.int .i64 0,S [],.int .i64 0,.slice none 0 0,.slice none 0 0]) underlying83
instance kE:qc prog 86 false [.slice none 0 0] 1 24:=Xd (z:=.slice none 0 0) underlying86
instance Qx:qc prog 93 true [S [],S [],S []] 3 48:=Xd (z:=.agg #[S [],S [],S []]) underlying93
instance Kf:qc prog 99 true [.int .i64 0,.int .i64 0,.int .i64 0] 3 24:=Xd (z:=.agg #[.int .i64 0,.int .i64 0,.int .i64 0]) underlying99
instance gq:qc prog 101 false [.slice none 0 0] 1 24:=Xd (z:=.slice none 0 0) underlying101
instance ss:qc prog 103 false [.slice none 0 0] 1 24:=Xd (z:=.slice none 0 0) underlying103
instance NL:qc prog 105 true [.slice none 0 0,.slice none 0 0,.int .i64 0] 3 56:=Xd (z:=.agg #[.slice none 0 0,.slice none 0 0,.int .i64 0]) underlying105
instance Nn:qc prog 107 true [.int .i64 0,.int .i64 0] 2 16:=Xd (z:=.agg #[.int .i64 0,.int .i64 0]) underlying107
instance hq:qc prog 108 false [.pointer none] 1 8:=Xd (z:=.pointer none) underlying108
instance zs:qc prog 111 false [.pointer none] 1 8:=Xd (z:=.pointer none) underlying111
instance Du:qc prog 114 false [.nilIface] 1 16:=Xd (z:=.nilIface) underlying114
instance rm:qc prog 115 false [.slice none 0 0] 1 24:=Xd (z:=.slice none 0 0) underlying115
instance yi:qc prog 116 false [.pointer none] 1 8:=Xd (z:=.pointer none) underlying116
instance OL:qc prog 117 false [.nilFunc] 1 8:=Xd (z:=.nilFunc) underlying117
instance PL:qc prog 119 true [.pointer none,.nilIface,.slice none 0 0,.pointer none,.int .i64 0,.int .i64 0,.int .i64 0,.slice none 0 0,.nilFunc] 9 112:=Xd (z:=.agg #[.pointer none,.nilIface,.slice none 0 0,.pointer none,.int .i64 0,.int .i64 0,.int .i64 0,.slice none 0 0,.nilFunc]) underlying119
instance zi:qc prog 122 true [.int .i64 0,.int .i64 0,.int .i64 0] 3 24:=Xd (z:=.agg #[.int .i64 0,.int .i64 0,.int .i64 0]) underlying122
instance pk:qc prog 126 true [.int .i64 0,S [],.int .i64 0,.int .i64 0] 4 40:=Xd (z:=.agg #[.int .i64 0,S [],.int .i64 0,.int .i64 0]) underlying126
instance QL:qc prog 142 true [.int .i64 0] 1 8:=Xd (z:=.agg #[.int .i64 0]) underlying142
instance uA:qc prog 143 false [.nilFunc] 1 8:=Xd (z:=.nilFunc) underlying143
instance vA:qc prog 144 false [.pointer none] 1 8:=Xd (z:=.pointer none) underlying144
instance Wo:qc prog 149 true [S [],S [],S []] 3 48:=Xd (z:=.agg #[S [],S [],S []]) underlying149
instance Eu:qc prog 152 false [.pointer none] 1 8:=Xd (z:=.pointer none) underlying152
instance RL:qc prog 154 true [.pointer none] 1 8:=Xd (z:=.agg #[.pointer none]) underlying154
instance SL:qc prog 158 true [.slice none 0 0,.int .i64 0,.int .i64 0] 3 40:=Xd (z:=.agg #[.slice none 0 0,.int .i64 0,.int .i64 0]) underlying158
instance Ui:qc prog 160 false [.slice none 0 0] 1 24:=Xd (z:=.slice none 0 0) underlying160
instance iq:qc prog 161 false [.pointer none] 1 8:=Xd (z:=.pointer none) underlying161
instance TL:qc prog 163 true [.int .i64 0,.pointer none,.slice none 0 0,.pointer none] 4 48:=Xd (z:=.agg #[.int .i64 0,.pointer none,.slice none 0 0,.pointer none]) underlying163
instance Qj:qc prog 166 true [.int .i64 0,.int .i64 0,.int .i64 0] 3 24:=Xd (z:=.agg #[.int .i64 0,.int .i64 0,.int .i64 0]) underlying166
instance QD:qc prog 182 false [.slice none 0 0] 1 24:=Xd (z:=.slice none 0 0) underlying182
instance ki:qc prog 184 true [.int .i64 0,.int .i64 0,S [],.slice none 0 0] 4 56:=Xd (z:=.agg #[.int .i64 0,.int .i64 0,S [],.slice none 0 0]) underlying184
instance Ek:qc prog 186 true [.int .i64 0,S [],.int .i64 0,.int .i64 0,S [],.slice none 0 0,.slice none 0 0,.slice none 0 0] 8 128:=Xd (z:=.agg #[.int .i64 0,S [],.int .i64 0,.int .i64 0,S [],.slice none 0 0,.slice none 0 0,.slice none 0 0]) underlying186
instance wA:qc prog 191 false [.pointer none] 1 8:=Xd (z:=.pointer none) underlying191
instance Fu:qc prog 196 true [.slice none 0 0,.slice none 0 0,.slice none 0 0] 3 72:=Xd (z:=.agg #[.slice none 0 0,.slice none 0 0,.slice none 0 0]) underlying196
instance UL:qc prog 198 false [.pointer none] 1 8:=Xd (z:=.pointer none) underlying198
instance On:qc prog 199 true [.slice none 0 0,.pointer none] 2 32:=Xd (z:=.agg #[.slice none 0 0,.pointer none]) underlying199
instance xA:qc prog 202 false [.pointer none] 1 8:=Xd (z:=.pointer none) underlying202
instance yA:qc prog 206 false [.map none] 1 8:=Xd (z:=.map none) underlying206
instance Pn:qc prog 207 false [.slice none 0 0] 1 24:=Xd (z:=.slice none 0 0) underlying207
instance Fk:qc prog 209 true [.slice none 0 0,.slice none 0 0] 2 48:=Xd (z:=.agg #[.slice none 0 0,.slice none 0 0]) underlying209
instance VL:qc prog 211 true [.pointer none,.pointer none,.map none,.slice none 0 0,.slice none 0 0,.slice none 0 0,.int .i64 0] 7 104:=Xd (z:=.agg #[.pointer none,.pointer none,.map none,.slice none 0 0,.slice none 0 0,.slice none 0 0,.int .i64 0]) underlying211
instance WL:qc prog 219 true [.slice none 0 0,.int .i64 0,.int .i64 0,.int .i64 0] 4 48:=Xd (z:=.agg #[.slice none 0 0,.int .i64 0,.int .i64 0,.int .i64 0]) underlying219
instance zA:qc prog 234 false [.map none] 1 8:=Xd (z:=.map none) underlying234
instance XL:qc prog 236 true [.slice none 0 0,.map none] 2 32:=Xd (z:=.agg #[.slice none 0 0,.map none]) underlying236
instance RD:qc prog 260 false [.map none] 1 8:=Xd (z:=.map none) underlying260
instance tm:qc prog 262 false [.pointer none] 1 8:=Xd (z:=.pointer none) underlying262
instance Gx:qc prog 263 false [.map none] 1 8:=Xd (z:=.map none) underlying263
instance Xo:qc prog 264 false [.slice none 0 0] 1 24:=Xd (z:=.slice none 0 0) underlying264
instance YL:qc prog 266 true [.pointer none,.pointer none,.slice none 0 0] 3 40:=Xd (z:=.agg #[.pointer none,.pointer none,.slice none 0 0]) underlying266
instance jq:qc prog 280 true [.map none,.bool false] 2 16:=Xd (z:=.agg #[.map none,.bool false]) underlying280
theorem FM:prog.eqGuardType prog.depth 79=false:=by kernel_rfl
theorem GM:prog.stoodInHeld 79=false:=by kernel_rfl
instance SI:bd prog 105 0 0:=hd underlying105 rfl rfl rfl gq rfl
instance FN:bd prog 105 1 1:=hd underlying105 rfl rfl rfl ss rfl
instance GN:bd prog 105 2 2:=hd underlying105 rfl rfl rfl Ka rfl
instance HN:bd prog 107 0 0:=hd underlying107 rfl rfl rfl Ka rfl
instance IN:bd prog 107 1 1:=hd underlying107 rfl rfl rfl Ka rfl
instance TI:bd prog 119 0 0:=hd underlying119 rfl rfl rfl rk rfl
instance SC:bd prog 119 1 1:=hd underlying119 rfl rfl rfl Du rfl
instance UI:bd prog 119 2 2:=hd underlying119 rfl rfl rfl rm rfl
instance mu:bd prog 119 3 3:=hd underlying119 rfl rfl rfl yi rfl
instance VI:bd prog 119 4 4:=hd underlying119 rfl rfl rfl Ka rfl
instance JN:bd prog 119 5 5:=hd underlying119 rfl rfl rfl Ka rfl
instance KN:bd prog 119 6 6:=hd underlying119 rfl rfl rfl Ka rfl
instance LN:bd prog 119 7 7:=hd underlying119 rfl rfl rfl mi rfl
instance MN:bd prog 119 8 8:=hd underlying119 rfl rfl rfl OL rfl
instance WI:bd prog 122 0 0:=hd underlying122 rfl rfl rfl Ka rfl
instance nu:bd prog 122 1 1:=hd underlying122 rfl rfl rfl Ka rfl
instance NN:bd prog 122 2 2:=hd underlying122 rfl rfl rfl th rfl
instance ON:bd prog 126 0 0:=hd underlying126 rfl rfl rfl Ka rfl
instance PN:bd prog 126 1 1:=hd underlying126 rfl rfl rfl ef rfl
instance QN:bd prog 126 2 2:=hd underlying126 rfl rfl rfl th rfl
instance RN:bd prog 126 3 3:=hd underlying126 rfl rfl rfl Ka rfl
instance SN:bd prog 142 0 0:=hd underlying142 rfl rfl rfl Ka rfl
instance TN:bd prog 149 0 0:=hd underlying149 rfl rfl rfl ef rfl
instance UN:bd prog 149 1 1:=hd underlying149 rfl rfl rfl ef rfl
instance VN:bd prog 149 2 2:=hd underlying149 rfl rfl rfl ef rfl
instance XI:bd prog 154 0 0:=hd underlying154 rfl rfl rfl rk rfl
instance WN:bd prog 158 0 0:=hd underlying158 rfl rfl rfl mi rfl
instance XN:bd prog 158 1 1:=hd underlying158 rfl rfl rfl Ka rfl
instance YN:bd prog 158 2 2:=hd underlying158 rfl rfl rfl Ka rfl
instance YI:bd prog 163 0 0:=hd underlying163 rfl rfl rfl Ka rfl
instance ZN:bd prog 163 1 1:=hd underlying163 rfl rfl rfl yi rfl
instance TC:bd prog 163 2 2:=hd underlying163 rfl rfl rfl Ui rfl
instance aO:bd prog 163 3 3:=hd underlying163 rfl rfl rfl iq rfl
instance ZI:bd prog 166 0 0:=hd underlying166 rfl rfl rfl Ka rfl
instance Iz:bd prog 166 1 1:=hd underlying166 rfl rfl rfl Ka rfl
instance bO:bd prog 166 2 2:=hd underlying166 rfl rfl rfl Ka rfl
instance cO:bd prog 184 0 0:=hd underlying184 rfl rfl rfl Ka rfl
instance dO:bd prog 184 1 1:=hd underlying184 rfl rfl rfl th rfl
instance eO:bd prog 184 2 2:=hd underlying184 rfl rfl rfl ef rfl
instance fO:bd prog 184 3 3:=hd underlying184 rfl rfl rfl QD rfl
instance gO:bd prog 186 0 0:=hd underlying186 rfl rfl rfl Ka rfl
instance hO:bd prog 186 1 1:=hd underlying186 rfl rfl rfl ef rfl
instance iO:bd prog 186 2 2:=hd underlying186 rfl rfl rfl ki rfl
instance jO:bd prog 196 0 0:=hd underlying196 rfl rfl rfl Rh rfl
instance kO:bd prog 196 1 1:=hd underlying196 rfl rfl rfl Rh rfl
instance lO:bd prog 196 2 2:=hd underlying196 rfl rfl rfl Rh rfl
instance mO:bd prog 199 0 0:=hd underlying199 rfl rfl rfl Rh rfl
instance nO:bd prog 199 1 1:=hd underlying199 rfl rfl rfl UL rfl
instance oO:bd prog 209 0 0:=hd underlying209 rfl rfl rfl Fj rfl
instance pO:bd prog 209 1 1:=hd underlying209 rfl rfl rfl Pn rfl
instance qO:bd prog 211 0 0:=hd underlying211 rfl rfl rfl Eu rfl
instance rO:bd prog 211 1 1:=hd underlying211 rfl rfl rfl xA rfl
instance sO:bd prog 211 2 2:=hd underlying211 rfl rfl rfl yA rfl
instance tO:bd prog 211 3 3:=hd underlying211 rfl rfl rfl Fj rfl
instance uO:bd prog 211 4 4:=hd underlying211 rfl rfl rfl Fk rfl
instance vO:bd prog 211 5 6:=hd underlying211 rfl rfl rfl nq rfl
instance aJ:bd prog 219 0 0:=hd underlying219 rfl rfl rfl mi rfl
instance wO:bd prog 219 1 1:=hd underlying219 rfl rfl rfl Ka rfl
instance bJ:bd prog 219 2 2:=hd underlying219 rfl rfl rfl Ka rfl
instance xO:bd prog 219 3 3:=hd underlying219 rfl rfl rfl Ka rfl
instance yO:bd prog 236 1 1:=hd underlying236 rfl rfl rfl zA rfl
instance HK:bd prog 25 0 0:=hd underlying25 rfl rfl rfl Ox rfl
instance IK:bd prog 25 1 1:=hd underlying25 rfl rfl rfl vl rfl
instance zO:bd prog 266 0 0:=hd underlying266 rfl rfl rfl wA rfl
instance AO:bd prog 266 2 2:=hd underlying266 rfl rfl rfl Xo rfl
instance BO:bd prog 280 0 0:=hd underlying280 rfl rfl rfl RD rfl
instance yP:bd prog 31 0 0:=hd underlying31 rfl rfl rfl Is rfl
instance zP:bd prog 31 1 1:=hd underlying31 rfl rfl rfl Mu rfl
instance AP:bd prog 37 0 0:=hd underlying37 rfl rfl rfl Ka rfl
instance BP:bd prog 37 1 1:=hd underlying37 rfl rfl rfl Ka rfl
instance CP:bd prog 46 0 0:=hd underlying46 rfl rfl rfl nq rfl
instance JK:bd prog 57 0 0:=hd underlying57 rfl rfl rfl Ka rfl
instance DP:bd prog 57 1 1:=hd underlying57 rfl rfl rfl Ka rfl
instance KK:bd prog 66 0 0:=hd underlying66 rfl rfl rfl Ka rfl
instance tx:bd prog 66 1 1:=hd underlying66 rfl rfl rfl Ka rfl
instance cA:bd prog 66 2 2:=hd underlying66 rfl rfl rfl Fj rfl
instance EP:bd prog 66 3 3:=hd underlying66 rfl rfl rfl Ka rfl
instance FP:bd prog 66 4 4:=hd underlying66 rfl rfl rfl Ka rfl
instance wD:bd prog 66 5 5:=hd underlying66 rfl rfl rfl cn rfl
instance GP:bd prog 75 0 0:=hd underlying75 rfl rfl rfl Sn rfl
instance HP:bd prog 75 2 2:=hd underlying75 rfl rfl rfl Ka rfl
instance IP:bd prog 79 0 0:=hd underlying79 rfl rfl rfl Ka rfl
instance JP:bd prog 79 1 1:=hd underlying79 rfl rfl rfl ef rfl
instance LK:bd prog 83 0 0:=hd underlying83 rfl rfl rfl Ka rfl
instance KP:bd prog 83 1 1:=hd underlying83 rfl rfl rfl ef rfl
instance LP:bd prog 83 2 2:=hd underlying83 rfl rfl rfl Sh rfl
instance MP:bd prog 83 4 6:=hd underlying83 rfl rfl rfl Ka rfl
instance NP:bd prog 83 6 8:=hd underlying83 rfl rfl rfl EM rfl
instance OP:bd prog 93 1 1:=hd underlying93 rfl rfl rfl ef rfl
instance QP:bd prog 93 2 2:=hd underlying93 rfl rfl rfl ef rfl
instance RP:bd prog 99 0 0:=hd underlying99 rfl rfl rfl nq rfl
theorem ZL:uh prog 105 #[(0,1),(1,1),(2,1)]:=Gh underlying105 (fun _=>by kernel_rfl)
theorem aM:uh prog 119 #[(0,1),(1,1),(2,1),(3,1),(4,1),(5,1),(6,1),(7,1),(8,1)]:=Gh underlying119 (fun _=>by kernel_rfl)
theorem bM:uh prog 126 #[(0,1),(1,1),(2,1),(3,1)]:=Gh underlying126 (fun _=>by kernel_rfl)
theorem cM:uh prog 142 #[(0,1)]:=Gh underlying142 (fun _=>by kernel_rfl)
theorem dM:uh prog 149 #[(0,1),(1,1),(2,1)]:=Gh underlying149 (fun _=>by kernel_rfl)
theorem eM:uh prog 154 #[(0,1)]:=Gh underlying154 (fun _=>by kernel_rfl)
theorem fM:uh prog 158 #[(0,1),(1,1),(2,1)]:=Gh underlying158 (fun _=>by kernel_rfl)
theorem gM:uh prog 163 #[(0,1),(1,1),(2,1),(3,1)]:=Gh underlying163 (fun _=>by kernel_rfl)
theorem SD:uh prog 166 #[(0,1),(1,1),(2,1)]:=Gh underlying166 (fun _=>by kernel_rfl)
theorem TD:uh prog 184 #[(0,1),(1,1),(2,1),(3,1)]:=Gh underlying184 (fun _=>by kernel_rfl)
theorem AA:uh prog 186 #[(0,1),(1,1),(2,4),(6,1),(7,1)]:=Gh underlying186 (fun _=>by kernel_rfl)
theorem UD:uh prog 199 #[(0,1),(1,1)]:=Gh underlying199 (fun _=>by kernel_rfl)
theorem VD:uh prog 209 #[(0,1),(1,1)]:=Gh underlying209 (fun _=>by kernel_rfl)
theorem hM:uh prog 211 #[(0,1),(1,1),(2,1),(3,1),(4,2),(6,1)]:=Gh underlying211 (fun _=>by kernel_rfl)
theorem iM:uh prog 219 #[(0,1),(1,1),(2,1),(3,1)]:=Gh underlying219 (fun _=>by kernel_rfl)
theorem jM:uh prog 236 #[(0,1),(1,1)]:=Gh underlying236 (fun _=>by kernel_rfl)
theorem kM:uh prog 266 #[(0,1),(1,1),(2,1)]:=Gh underlying266 (fun _=>by kernel_rfl)
theorem Gu:uh prog 280 #[(0,1),(1,1)]:=Gh underlying280 (fun _=>by kernel_rfl)
theorem Rx:uh prog 31 #[(0,1),(1,1),(2,1)]:=Gh underlying31 (fun _=>by kernel_rfl)
theorem HM:uh prog 37 #[(0,1),(1,1),(2,1),(3,1)]:=Gh underlying37 (fun _=>by kernel_rfl)
theorem Sx:uh prog 46 #[(0,1),(1,1)]:=Gh underlying46 (fun _=>by kernel_rfl)
theorem IM:uh prog 57 #[(0,1),(1,1)]:=Gh underlying57 (fun _=>by kernel_rfl)
theorem Nu:uh prog 59 #[(0,1),(1,1)]:=Gh underlying59 (fun _=>by kernel_rfl)
theorem JM:uh prog 75 #[(0,1),(1,1),(2,1)]:=Gh underlying75 (fun _=>by kernel_rfl)
theorem lE:uh prog 79 #[(0,1),(1,1)]:=Gh underlying79 (fun _=>by kernel_rfl)
theorem mE:uh prog 83 #[(0,1),(1,1),(2,2),(4,2),(6,1),(7,1),(8,1)]:=Gh underlying83 (fun _=>by kernel_rfl)
theorem KM:uh prog 93 #[(0,1),(1,1),(2,1)]:=Gh underlying93 (fun _=>by kernel_rfl)
theorem wm:uh prog 99 #[(0,1),(1,1),(2,1)]:=Gh underlying99 (fun _=>by kernel_rfl)
theorem WD:∀ w,(zeroValue 144).run prog w=.ok (.pointer none) w:=Bu (by kernel_rfl)
theorem XD:∀ w,(zeroValue 196).run prog w=.ok (.agg #[.slice none 0 0,.slice none 0 0,.slice none 0 0]) w:=Bu (by kernel_rfl)
theorem BA:∀ w,(zeroValue 209).run prog w=.ok (.agg #[.slice none 0 0,.slice none 0 0]) w:=Bu (by kernel_rfl)
theorem uE:∀ w,(zeroValue 3).run prog w=.ok (.int .i64 0) w:=Bu (by kernel_rfl)
theorem UM:∀ w,(zeroValue 4).run prog w=.ok (.bool false) w:=Bu (by kernel_rfl)
end Go.Proofs.YtbhncpgjmkcdcaaGreatDoor
namespace Go.Proofs
open Go.Shelf
def Tryz.KE:Go.Shelf.Ren:=⟨fun | 174=>43 | 247=>70 | 245=>71 | 287=>102 | 279=>103 | 280=>104 | 281=>105 | 282=>106 | 321=>131 | 322=>132 | 316=>133 | 171=>135 | 205=>134 | 243=>147 | 246=>155 | 283=>165 | 284=>166 | 285=>167 | 286=>168 | 129=>178 | 317=>177 | 318=>179 | 319=>180 | 320=>181 | 337=>182 | 338=>183 | n=>n,fun | 9=>9 | 3=>3 | 2=>2 | 75=>130 | 85=>131 | 4=>4 | 167=>223 | 5=>5 | 53=>224 | 175=>225 | 46=>227 | 168=>228 | 37=>251 | 0=>0 | 210=>253 | 21=>21 | 127=>273 | 145=>276 | 143=>274 | 171=>291 | 173=>294 | 212=>305 | 51=>296 | 20=>20 | 213=>306 | 232=>309 | 233=>310 | 80=>134 | n=>n,fun | 15=>0 | 16=>1 | 17=>3 | 18=>4 | 19=>5 | n=>n⟩
theorem Tryz.cH:Go.Proofs.LaysC.n174 Tryz.prog Tryz.KE:={
 mixed:=by kernel_rfl
 f129:=Tryz.func178.trans (congrArg some (by kernel_rfl))
 f171:=Tryz.func135.trans (congrArg some (by kernel_rfl))
 f174:=Tryz.func43.trans (congrArg some (by kernel_rfl))
 f205:=Tryz.func134.trans (congrArg some (by kernel_rfl))
 f243:=Tryz.func147.trans (congrArg some (by kernel_rfl))
 f245:=Tryz.func71.trans (congrArg some (by kernel_rfl))
 f246:=Tryz.func155.trans (congrArg some (by kernel_rfl))
 f247:=Tryz.func70.trans (congrArg some (by kernel_rfl))
 f279:=Tryz.func103.trans (congrArg some (by kernel_rfl))
 f280:=Tryz.func104.trans (congrArg some (by kernel_rfl))
 f281:=Tryz.func105.trans (congrArg some (by kernel_rfl))
 f282:=Tryz.func106.trans (congrArg some (by kernel_rfl))
 f283:=Tryz.func165.trans (congrArg some (by kernel_rfl))
 f284:=Tryz.func166.trans (congrArg some (by kernel_rfl))
 f285:=Tryz.func167.trans (congrArg some (by kernel_rfl))
 f286:=Tryz.func168.trans (congrArg some (by kernel_rfl))
 f287:=Tryz.func102.trans (congrArg some (by kernel_rfl))
 f316:=Tryz.func133.trans (congrArg some (by kernel_rfl))
 f317:=Tryz.func177.trans (congrArg some (by kernel_rfl))
 f318:=Tryz.func179.trans (congrArg some (by kernel_rfl))
 f319:=Tryz.func180.trans (congrArg some (by kernel_rfl))
 f320:=Tryz.func181.trans (congrArg some (by kernel_rfl))
 f321:=Tryz.func131.trans (congrArg some (by kernel_rfl))
 f322:=Tryz.func132.trans (congrArg some (by kernel_rfl))
 f337:=Tryz.func182.trans (congrArg some (by kernel_rfl))
 f338:=Tryz.func183.trans (congrArg some (by kernel_rfl))
 t0:=Tryz.underlying0
 a0:=Tryz.isAgg0
 z0:=Tryz.sizeOf0
 v0:=Tryz.zeroValue0
 t2:=Tryz.underlying2
 a2:=Tryz.isAgg2
 z2:=Tryz.sizeOf2
 v2:=Tryz.zeroValue2
 t3:=Tryz.underlying3
 a3:=Tryz.isAgg3
 z3:=Tryz.sizeOf3
 v3:=Tryz.zeroValue3
 t4:=Tryz.underlying4
 a4:=Tryz.isAgg4
 z4:=Tryz.sizeOf4
 v4:=Tryz.zeroValue4
 t5:=Tryz.underlying5
 a5:=Tryz.isAgg5
 z5:=Tryz.sizeOf5
 v5:=Tryz.zeroValue5
 t9:=Tryz.underlying9
 a9:=Tryz.isAgg9
 z9:=Tryz.sizeOf9
 v9:=Tryz.zeroValue9
 t20:=Tryz.underlying20
 a20:=Tryz.isAgg20
 z20:=Tryz.sizeOf20
 v20:=Tryz.zeroValue20
 t21:=Tryz.underlying21
 a21:=Tryz.isAgg21
 z21:=Tryz.sizeOf21
 v21:=Tryz.zeroValue21
 t37:=Tryz.underlying251
 a37:=Tryz.isAgg251
 z37:=Tryz.sizeOf251
 v37:=Tryz.zeroValue251
 t46:=Tryz.underlying227
 a46:=Tryz.isAgg227
 z46:=Tryz.sizeOf227
 v46:=Tryz.zeroValue227
 t51:=Tryz.underlying296
 a51:=Tryz.isAgg296
 z51:=Tryz.sizeOf296
 v51:=Tryz.zeroValue296
 t53:=Tryz.underlying224
 a53:=Tryz.isAgg224
 z53:=Tryz.sizeOf224
 v53:=Tryz.zeroValue224
 t75:=Tryz.underlying130
 a75:=Tryz.isAgg130
 z75:=Tryz.sizeOf130
 v75:=Tryz.zeroValue130
 t85:=Tryz.underlying131
 a85:=Tryz.isAgg131
 z85:=Tryz.sizeOf131
 v85:=Tryz.zeroValue131
 t127:=Tryz.underlying273
 a127:=Tryz.isAgg273
 z127:=Tryz.sizeOf273
 v127:=Tryz.zeroValue273
 t143:=Tryz.underlying274
 a143:=Tryz.isAgg274
 z143:=Tryz.sizeOf274
 v143:=Tryz.zeroValue274
 t145:=Tryz.underlying276
 a145:=Tryz.isAgg276
 z145:=Tryz.sizeOf276
 v145:=Tryz.zeroValue276
 t167:=Tryz.underlying223
 a167:=Tryz.isAgg223
 z167:=Tryz.sizeOf223
 v167:=Tryz.zeroValue223
 t168:=Tryz.underlying228
 a168:=Tryz.isAgg228
 z168:=Tryz.sizeOf228
 v168:=Tryz.zeroValue228
 t171:=Tryz.underlying291
 a171:=Tryz.isAgg291
 z171:=Tryz.sizeOf291
 v171:=Tryz.zeroValue291
 t173:=Tryz.underlying294
 a173:=Tryz.isAgg294
 z173:=Tryz.sizeOf294
 v173:=Tryz.zeroValue294
 t175:=Tryz.underlying225
 a175:=Tryz.isAgg225
 z175:=Tryz.sizeOf225
 v175:=Tryz.zeroValue225
 t210:=Tryz.underlying253
 a210:=Tryz.isAgg253
 z210:=Tryz.sizeOf253
 v210:=Tryz.zeroValue253
 t212:=Tryz.underlying305
 a212:=Tryz.isAgg305
 z212:=Tryz.sizeOf305
 v212:=Tryz.zeroValue305
 t213:=Tryz.underlying306
 a213:=Tryz.isAgg306
 z213:=Tryz.sizeOf306
 t232:=Tryz.underlying309
 a232:=Tryz.isAgg309
 z232:=Tryz.sizeOf309
 v232:=Tryz.zeroValue309
 t233:=Tryz.underlying310
 a233:=Tryz.isAgg310
 z233:=Tryz.sizeOf310
 v233:=Tryz.zeroValue310
 g15:=by kernel_rfl
 g16:=by kernel_rfl
 g17:=by kernel_rfl
 g18:=by kernel_rfl
 g19:=by kernel_rfl
 t80:=Tryz.underlying134
 a80:=Tryz.isAgg134
 z80:=Tryz.sizeOf134
 v80:=Tryz.zeroValue134
 i0:=by kernel_rfl
 i2:=by kernel_rfl
 i3:=by kernel_rfl
 i4:=by kernel_rfl
 i5:=by kernel_rfl
 i9:=by kernel_rfl
 i20:=by kernel_rfl
 i21:=by kernel_rfl
 i37:=by kernel_rfl
 i46:=by kernel_rfl
 i51:=by kernel_rfl
 i53:=by kernel_rfl
 i75:=by kernel_rfl
 i80:=by kernel_rfl
 i85:=by kernel_rfl
 i127:=by kernel_rfl
 i143:=by kernel_rfl
 i145:=by kernel_rfl
 i167:=by kernel_rfl
 i168:=by kernel_rfl
 i171:=by kernel_rfl
 i173:=by kernel_rfl
 i175:=by kernel_rfl
 i210:=by kernel_rfl
 i212:=by kernel_rfl
 i232:=by kernel_rfl
 i233:=by kernel_rfl
 m15:=by kernel_rfl
 m16:=by kernel_rfl
 m17:=by kernel_rfl
 m18:=by kernel_rfl
 m19:=by kernel_rfl
 c0:=by kernel_rfl
 c2:=by kernel_rfl
 c3:=by kernel_rfl
 c4:=by kernel_rfl
 c5:=by kernel_rfl
 c9:=by kernel_rfl
 c20:=by kernel_rfl
 c21:=by kernel_rfl
 c37:=by kernel_rfl
 c46:=by kernel_rfl
 c51:=by kernel_rfl
 c53:=by kernel_rfl
 c75:=by kernel_rfl
 c80:=by kernel_rfl
 c85:=by kernel_rfl
 c127:=by kernel_rfl
 c143:=by kernel_rfl
 c145:=by kernel_rfl
 c167:=by kernel_rfl
 c168:=by kernel_rfl
 c171:=by kernel_rfl
 c173:=by kernel_rfl
 c175:=by kernel_rfl
 c210:=by kernel_rfl
 c212:=by kernel_rfl
 c213:=by kernel_rfl
 c232:=by kernel_rfl
 c233:=by kernel_rfl }
open Go.RowKit in
theorem Tryz.strconv_ParseInt_10_at64_ok (s:ByteArray) (a:s.size≤9223372036854775806) (v:Int) (h:Lib.parseIntB 64 s.data.toList=.ok v) (w:World) :
  Calls Tryz.prog 43 #[.string s,.int .i64 10,.int .i64 64] w fun e w'=>e=.returned (.tuple #[.int .i64 v,.nilIface])∧(w'=w∨∃ t,w'=Lib.bytesWorld w 5 t):=Any.strconv_ParseInt_10_at64_ok Tryz.cH s a v h w
def Tryz.XE:Go.Shelf.Ren:=⟨fun | 144=>108 | 143=>136 | 219=>148 | 217=>156 | 225=>157 | 224=>158 | 267=>159 | 266=>169 | 314=>170 | n=>n,fun | 9=>9 | 4=>4 | 3=>3 | 5=>5 | 46=>227 | 146=>297 | 51=>296 | n=>n,fun | 1=>2 | n=>n⟩
theorem Tryz.cJ:Go.Proofs.Lays.n144 Tryz.prog Tryz.XE:={
 mixed:=by kernel_rfl
 f143:=Tryz.func136.trans (congrArg some (by kernel_rfl))
 f144:=Tryz.func108.trans (congrArg some (by kernel_rfl))
 f217:=Tryz.func156.trans (congrArg some (by kernel_rfl))
 f219:=Tryz.func148.trans (congrArg some (by kernel_rfl))
 f224:=Tryz.func158.trans (congrArg some (by kernel_rfl))
 f225:=Tryz.func157.trans (congrArg some (by kernel_rfl))
 f266:=Tryz.func169.trans (congrArg some (by kernel_rfl))
 f267:=Tryz.func159.trans (congrArg some (by kernel_rfl))
 f314:=Tryz.func170.trans (congrArg some (by kernel_rfl))
 t3:=Tryz.underlying3
 a3:=Tryz.isAgg3
 z3:=Tryz.sizeOf3
 v3:=Tryz.zeroValue3
 t4:=Tryz.underlying4
 a4:=Tryz.isAgg4
 z4:=Tryz.sizeOf4
 v4:=Tryz.zeroValue4
 t5:=Tryz.underlying5
 a5:=Tryz.isAgg5
 z5:=Tryz.sizeOf5
 v5:=Tryz.zeroValue5
 t9:=Tryz.underlying9
 a9:=Tryz.isAgg9
 z9:=Tryz.sizeOf9
 v9:=Tryz.zeroValue9
 t46:=Tryz.underlying227
 a46:=Tryz.isAgg227
 z46:=Tryz.sizeOf227
 v46:=Tryz.zeroValue227
 t51:=Tryz.underlying296
 a51:=Tryz.isAgg296
 z51:=Tryz.sizeOf296
 v51:=Tryz.zeroValue296
 t146:=Tryz.underlying297
 a146:=Tryz.isAgg297
 z146:=Tryz.sizeOf297
 v146:=Tryz.zeroValue297
 g1:=by kernel_rfl }
open Go.RowKit Go.Lib in
theorem Tryz.strings_Contains (s sub:ByteArray) (m:Int) (w:World) (hs:s.size<4294967281) (hm:w.cell? ⟨2,0,none⟩=some (.int .i64 m)) :
  Calls Tryz.prog 108 #[.string s,.string sub] w fun e w'=>e=.returned (.bool (Lib.contains s.data.toList sub.data.toList))∧w'=w:=Any.strings_Contains Tryz.cJ s sub m w hs hm
def Tryz.YE:Go.Shelf.Ren:=⟨fun | 107=>37 | 108=>68 | n=>n,fun | 28=>39 | 3=>3 | 4=>4 | 0=>0 | n=>n,fun | n=>n⟩
theorem Tryz.UC:Go.Proofs.Lays.n107 Tryz.prog Tryz.YE:={
 mixed:=by kernel_rfl
 f107:=Tryz.func37.trans (congrArg some (by kernel_rfl))
 f108:=Tryz.func68.trans (congrArg some (by kernel_rfl))
 t0:=Tryz.underlying0
 a0:=Tryz.isAgg0
 z0:=Tryz.sizeOf0
 v0:=Tryz.zeroValue0
 t3:=Tryz.underlying3
 a3:=Tryz.isAgg3
 z3:=Tryz.sizeOf3
 v3:=Tryz.zeroValue3
 t4:=Tryz.underlying4
 a4:=Tryz.isAgg4
 z4:=Tryz.sizeOf4
 v4:=Tryz.zeroValue4
 t28:=Tryz.underlying39
 a28:=Tryz.isAgg39
 z28:=Tryz.sizeOf39
 v28:=Tryz.zeroValue39 }
open Go.Lib in
theorem Tryz.slices_Contains_int (b off n c:Nat) (a:List Int) (x:Int) (w:World) (d:n≤a.length) (f:n≤9223372036854775807) (hc:∀ j,j<a.length→w.cell? ⟨b,off+j,none⟩=some (.int .i64 (a.getD j 0))) :
  Calls Tryz.prog 37 #[.slice (some ⟨b,off,none⟩) n c,.int .i64 x] w fun e w'=>e=.returned (.bool ((a.take n).contains x))∧w'=w:=Any.slices_Contains_int Tryz.UC b off n c a x w d f hc
open Go.Lib in
theorem Tryz.slices_Contains_int_empty (a:Option Addr) (c:Nat) (x:Int) (w:World) :
  Calls Tryz.prog 37 #[.slice a 0 c,.int .i64 x] w fun e w'=>e=.returned (.bool false)∧w'=w:=Any.slices_Contains_int_empty Tryz.UC a c x w
def Tryz.ZE:Go.Shelf.Ren:=⟨fun | 110=>28 | 109=>55 | n=>n,fun | 31=>49 | 9=>9 | 4=>4 | 3=>3 | 0=>0 | n=>n,fun | n=>n⟩
theorem Tryz.VC:Go.Proofs.Lays.n110 Tryz.prog Tryz.ZE:={
 mixed:=by kernel_rfl
 f109:=Tryz.func55.trans (congrArg some (by kernel_rfl))
 f110:=Tryz.func28.trans (congrArg some (by kernel_rfl))
 t0:=Tryz.underlying0
 a0:=Tryz.isAgg0
 z0:=Tryz.sizeOf0
 v0:=Tryz.zeroValue0
 t3:=Tryz.underlying3
 a3:=Tryz.isAgg3
 z3:=Tryz.sizeOf3
 v3:=Tryz.zeroValue3
 t4:=Tryz.underlying4
 a4:=Tryz.isAgg4
 z4:=Tryz.sizeOf4
 v4:=Tryz.zeroValue4
 t9:=Tryz.underlying9
 a9:=Tryz.isAgg9
 z9:=Tryz.sizeOf9
 v9:=Tryz.zeroValue9
 t31:=Tryz.underlying49
 a31:=Tryz.isAgg49
 z31:=Tryz.sizeOf49
 v31:=Tryz.zeroValue49 }
open Go.Lib in
theorem Tryz.slices_Contains_string (b off n c:Nat) (a:List ByteArray) (x:ByteArray) (w:World) (d:n≤a.length) (f:n≤9223372036854775807) (hc:∀ j,j<a.length→w.cell? ⟨b,off+j,none⟩=some (.string (a.getD j ByteArray.empty))) :
  Calls Tryz.prog 28 #[.slice (some ⟨b,off,none⟩) n c,.string x] w fun e w'=>e=.returned (.bool (Lib.containsS (a.take n) x))∧w'=w:=Any.slices_Contains_string Tryz.VC b off n c a x w d f hc
open Go.Lib in
theorem Tryz.slices_Contains_string_empty (a:Option Addr) (c:Nat) (x:ByteArray) (w:World) :
  Calls Tryz.prog 28 #[.slice a 0 c,.string x] w fun e w'=>e=.returned (.bool false)∧w'=w:=Any.slices_Contains_string_empty Tryz.VC a c x w
def Tryz.EE:Go.Shelf.Ren:=⟨fun | 15=>121 | n=>n,fun | 22=>39 | 3=>3 | 4=>4 | n=>n,fun | n=>n⟩
theorem Tryz.Zy:Go.Proofs.Lays2.n15 Tryz.prog Tryz.EE:={
 mixed:=by kernel_rfl
 f15:=Tryz.func121.trans (congrArg some (by kernel_rfl))
 t3:=Tryz.underlying3
 a3:=Tryz.isAgg3
 z3:=Tryz.sizeOf3
 v3:=Tryz.zeroValue3
 t4:=Tryz.underlying4
 a4:=Tryz.isAgg4
 z4:=Tryz.sizeOf4
 v4:=Tryz.zeroValue4
 t22:=Tryz.underlying39
 a22:=Tryz.isAgg39
 z22:=Tryz.sizeOf39
 v22:=Tryz.zeroValue39
 i3:=by kernel_rfl }
open Go.RowKit Go.Lib in
theorem Tryz.slices_Clone_int (b off n c:Nat) (a:List Int) (w:World) (f:n≤a.length) (g:n*8≤140737488355328) (hc:∀ j,j<a.length→w.cell? ⟨b,off+j,none⟩=some (.int .i64 (a.getD j 0))) :
  Calls Tryz.prog 121 #[.slice (some ⟨b,off,none⟩) n c] w fun e w'=>∃ d,e=.returned d∧w'.ownsRow w.heap.size 3 1 d n ((a.take n).map (Value.int .i64))∧d≠.slice none 0 0∧Below w.heap.size w w':=Any.slices_Clone_int Tryz.Zy b off n c a w f g hc
open Go.RowKit Go.Lib in
theorem Tryz.slices_Clone_int_nil (n c:Nat) (w:World) :
  Calls Tryz.prog 121 #[.slice none n c] w fun e w'=>e=.returned (.slice none 0 0)∧w'=w:=Any.slices_Clone_int_nil Tryz.Zy n c w
open Go.RowKit Go.Lib in
theorem Tryz.slices_Clone_int_zero (a:Addr) (c:Nat) (w:World) :
  Calls Tryz.prog 121 #[.slice (some a) 0 c] w fun e w'=>∃ b,e=.returned b∧w'.ownsRow w.heap.size 3 1 b 0 []∧b≠.slice none 0 0∧Below w.heap.size w w':=Any.slices_Clone_int_zero Tryz.Zy a c w
def Tryz.zE:Go.Shelf.Ren:=⟨fun | 41=>122 | n=>n,fun | 22=>207 | 23=>4 | 4=>4 | n=>n,fun | n=>n⟩
theorem Tryz.cB:Go.Proofs.SlLaysE0.n41 Tryz.prog Tryz.zE:={
 mixed:=by kernel_rfl
 f41:=⟨Tryz.f122.name,by decide,Tryz.func122.trans (congrArg some (by kernel_rfl))⟩
 t4:=Tryz.underlying4
 a4:=Tryz.isAgg4
 z4:=Tryz.sizeOf4
 v4:=Tryz.zeroValue4
 t22:=Tryz.underlying207
 a22:=Tryz.isAgg207
 z22:=Tryz.sizeOf207
 v22:=Tryz.zeroValue207 }
open Go.RowKit Go.Lib in
theorem Tryz.BE (i0:TypeInfo) (z:Value) (size bytes:Nat) (Pa:Tryz.prog.info? 4=some i0) (d:i0.zero=some z) (f:i0.size=size) (g:i0.bytes=bytes) (h:z.cells.size=size) (i:0<size) (z23:∀ w,(Go.sizeOf 4).run Tryz.prog w=.ok size w) (b off n c:Nat) (news:List Value) (w:World) (k:news.length=n*size) (l:n≤maxLen) (m:n*bytes≤140737488355328) (hc:∀ j u,news[j]?=some u→w.cell? ⟨b,off+j,none⟩=some u) (o:∀ u ∈ news,u.oneCell'=true) :
  Calls Tryz.prog 122 #[.slice (some ⟨b,off,none⟩) n c] w fun e w'=>∃ a,e=.returned a∧w'.ownsRow w.heap.size 4 size a n news∧a≠.slice none 0 0∧Below w.heap.size w w':=AnyE.slices_Clone Tryz.cB i0 z size bytes Pa d f g h i z23 b off n c news w k l m hc o
open Go.RowKit Go.Lib in
theorem Tryz.yE (n c:Nat) (w:World) :
  Calls Tryz.prog 122 #[.slice none n c] w fun e w'=>e=.returned (.slice none 0 0)∧w'=w:=AnyE.slices_Clone_nil Tryz.cB n c w
end Go.Proofs
namespace Go.Proofs
open Go.Shelf
def Tryz.FE : Go.Shelf.Ren := ⟨fun | 24 => 29 | n => n, fun | 24 => 49 | 9 => 9 | 3 => 3 | 4 => 4 | 0 => 0 | n => n, fun | n => n⟩
theorem Tryz.UB : Go.Proofs.Lays2.n24 Tryz.prog Tryz.FE := {
  mixed := by kernel_rfl
  f24 := Tryz.func29.trans (congrArg some (by kernel_rfl))
  t0 := Tryz.underlying0
  a0 := Tryz.isAgg0
  z0 := Tryz.sizeOf0
  v0 := Tryz.zeroValue0
  t3 := Tryz.underlying3
  a3 := Tryz.isAgg3
  z3 := Tryz.sizeOf3
  v3 := Tryz.zeroValue3
  t4 := Tryz.underlying4
  a4 := Tryz.isAgg4
  z4 := Tryz.sizeOf4
  v4 := Tryz.zeroValue4
  t9 := Tryz.underlying9
  a9 := Tryz.isAgg9
  z9 := Tryz.sizeOf9
  v9 := Tryz.zeroValue9
  t24 := Tryz.underlying49
  a24 := Tryz.isAgg49
  z24 := Tryz.sizeOf49
  v24 := Tryz.zeroValue49
  i9 := by kernel_rfl }
open Go.RowKit Go.Lib Go.Sort in
theorem Tryz.slices_Delete_string (ba off cap i j : Nat) (a : List (List UInt8)) (w : World) (b : Holds encStr w ba off a.toArray) (c : a.length ≤ cap) (hm : cap ≤ 9223372036854775807) (d : i ≤ j) (f : j ≤ a.length) :
    Calls Tryz.prog 29 #[.slice (some ⟨ba, off, none⟩) a.length cap, .int .i64 i, .int .i64 j] w fun e w' => e = .returned (.slice (some ⟨ba, off, none⟩) (a.length - (j - i)) cap) ∧ ∃ q, w' = putRow encStr (Sort.ahead w q) ba off (a.take i ++ a.drop j ++ List.replicate (j - i) []).toArray := Any.slices_Delete_string Tryz.UB ba off cap i j a w b c hm d f
open Go.RowKit Go.Lib in
theorem Tryz.slices_Delete_string_empty (a : Option Addr) (c : Nat) (w : World) :
    Calls Tryz.prog 29 #[.slice a 0 c, .int .i64 0, .int .i64 0] w fun e w' => e = .returned (.slice a 0 c) ∧ w' = w := Any.slices_Delete_string_empty Tryz.UB a c w
end Go.Proofs
namespace Go.Proofs.YtbhncpgjmkcdcaaGreatDoor
open Go.Ab Go.jc Go.Y Tryz
def Cb:M:=fun w=>∃ m,w.cell? ⟨2,0,none⟩=some (.int .i64 m)
theorem MK {E:M}{w0 w:World}{J:List mb}{l:List UInt8}{r:Int}(g:LA l=some r) (b:ia E w0 w J) :
  tb prog 43 [S l,.int .i64 10,.int .i64 64] w (fun v w'=>v=.tuple ⟨[.int .i64 r,.nilIface]⟩∧ia E w0 w' J):=by
 unfold LA at g;split at g
 ·rename_i c;cases a:Lib.parseIntB 64 l with
  | ok v =>
   rw [a] at g;obtain rfl:=Option.some.inj g;refine ⟨(strconv_ParseInt_10_at64_ok ⟨⟨l⟩⟩ c v a w).mono fun e w' he=>?_⟩;obtain ⟨rfl,hw⟩:=he;refine ⟨rfl,?_⟩;rcases hw with rfl | ⟨t,rfl⟩
   ·exact b
   ·have h:=Lib.bytesWorld_below w 5 t;exact b.grow ⟨h.os,h.tape,h.output,h.size,fun k d _=>h.block k d⟩
  | _=>rw [a] at g; cases g
 ·cases g
theorem dJ {E:M}{w0 w:World}{J:List mb}{l sub:List UInt8}{b:Bool}(d:da Cb E) (g:mA l sub=some b) (c:ia E w0 w J) :
  tb prog 108 [S l,S sub] w (fun v w'=>v=.bool b∧ia E w0 w' J):=by
 unfold mA at g;split at g
 ·rename_i f;obtain rfl:=Option.some.inj g;obtain ⟨m,hm⟩:=d w c.a;refine ⟨(strings_Contains ⟨⟨l⟩⟩ ⟨⟨sub⟩⟩ m w f hm).mono fun e w' he=>?_⟩;obtain ⟨rfl,rfl⟩:=he;exact ⟨rfl,c⟩
 ·cases g
end Go.Proofs.YtbhncpgjmkcdcaaGreatDoor
namespace Go.Proofs.YtbhncpgjmkcdcaaGreatDoor
open Go.Ab Go.jc Go.Y Go.RowKit Tryz
section
variable {μ E:M}{w0 w:World}{J rs:List mb}
def Wr (w:World) (v:Value) (vs:List Value):Prop:=(vs=[]∧∃ a c,v=.slice a 0 c)∨∃ b o c,v=.slice (some ⟨b,o,none⟩) vs.length c∧vs.length≤9223372036854775807∧∀ j y,vs[j]?=some y→w.cell? ⟨b,o+j,none⟩=some y
theorem vz {α:Type}[Ja α]{f:α→Value}(a:∀ (μ:M) (l:List Value) (x:α),Ja.cs μ l x→l=[f x]):∀ {l:List α}{cells:List Value},na μ cells l→cells=l.map f
 | [],cells,h=>by rw [na] at h; simp [h]
 | x::l,cells,h=>by
  rw [na] at h;obtain ⟨cs,t,rfl,b,c⟩:=h;rw [a _ _ _ b,vz a c];rfl
theorem Qp {α:Type}[Ja α]{f:α→Value}(c:∀ (μ:M) (l:List Value) (x:α),Ja.cs μ l x→l=[f x]){v:Value}{T:TypeId}{l:List α}{cells:List Value}(h:Row w v T 1 l.length cells) (d:na μ cells l):Wr w v (l.map f):=by
 have e:=vz c d;subst e;rcases h.2 with ⟨rfl,b⟩ | ⟨g,o,cap,cur,rfl,i,k,b,n,m⟩
 ·exact .inl ⟨by rw [List.length_eq_zero_iff.1 b];rfl,none,0,rfl⟩
 ·refine .inr ⟨g,o,cap,by simp,by simp;exact Nat.le_trans k (Nat.le_trans b (by decide)),fun j y a=>?_⟩;rw [cell_of_row w g (o+j) cur T (0,0) i];rw [← m,List.getElem?_take] at a;split at a
  ·rw [List.getElem?_drop] at a;simpa using a
  ·cases a
theorem Fw {α:Type}[Ja α]{f:α→Value}(g:∀ (μ:M) (l:List Value) (x:α),Ja.cs μ l x→l=[f x]) (i:Ja.sz α=1){a:Option Addr}{c:Nat}{l:List α}(h:Da μ a c l) (hw:μ w):Wr w (.slice a l.length c) (l.map f):=by
 rcases h.el with rfl | ⟨b,o,rfl,p,k⟩
 ·exact .inl ⟨rfl,a,c,rfl⟩
 ·refine .inr ⟨b,o,c,by simp,by simp;exact Da.len h,fun j y d=>?_⟩;simp only [List.getElem?_map,Option.map_eq_some_iff] at d;obtain ⟨x,m,rfl⟩:=d;obtain ⟨e,n⟩:=k j x m;rw [g _ _ _ n,i] at e;have:=e w hw 0 _ rfl;simpa using this
theorem Tx (μ:M) (l:List Value) (x:List UInt8) (h:Ja.cs μ l x):l=[S x]:=h
theorem Js (μ:M) (l:List Value) (x:Int) (h:Ja.cs μ l x):l=[.int .i64 x]:=h
theorem sy {v:Value}{l:List (List UInt8)}{x:List UInt8}(h:Wr w v (l.map S)):tb prog 28 [v,S x] w (fun v w'=>v=.bool (l.contains x)∧w'=w):=by
 rcases h with ⟨f,a,c,rfl⟩ | ⟨b,o,c,rfl,g,hc⟩
 ·obtain rfl:l=[]:=List.map_eq_nil_iff.1 f;exact ⟨(slices_Contains_string_empty a c ⟨⟨x⟩⟩ w).mono fun e w' he=>by
   obtain ⟨rfl,rfl⟩:=he;exact ⟨rfl,rfl⟩⟩
 ·refine ⟨(slices_Contains_string b o (l.map S).length c (l.map fun y=>⟨⟨y⟩⟩) ⟨⟨x⟩⟩ w (by simp) g ?_).mono fun e w' he=>?_⟩
  ·intro j i;have d:j<l.length:=by simpa using i
   rw [hc j (S l[j]) (by simp [d])];simp [List.getElem?_eq_getElem d,S]
  ·obtain ⟨rfl,rfl⟩:=he;refine ⟨?_,rfl⟩;congr 1;rw [List.take_of_length_le (by simp),Bool.eq_iff_iff,Lib.containsS_iff,List.contains_iff_mem];constructor
   ·intro hm;obtain ⟨y,m,e⟩:=List.mem_map.1 hm;have k:y=x:=congrArg (fun b:ByteArray=>b.data.toList) e;rwa [← k]
   ·exact fun hm=>List.mem_map.2 ⟨x,hm,rfl⟩
theorem qv {v:Value}{l:List Int}{x:Int}(h:Wr w v (l.map (Value.int .i64))):tb prog 37 [v,.int .i64 x] w (fun v w'=>v=.bool (l.contains x)∧w'=w):=by
 rcases h with ⟨f,a,c,rfl⟩ | ⟨b,o,c,rfl,g,hc⟩
 ·obtain rfl:l=[]:=List.map_eq_nil_iff.1 f;exact ⟨(slices_Contains_int_empty a c x w).mono fun e w' he=>by
   obtain ⟨rfl,rfl⟩:=he;exact ⟨rfl,rfl⟩⟩
 ·refine ⟨(slices_Contains_int b o (l.map (Value.int .i64)).length c l x w (by simp) g ?_).mono fun e w' he=>?_⟩
  ·intro j d;rw [hc j (.int .i64 l[j]) (by simp [d])];simp [List.getElem?_eq_getElem d]
  ·obtain ⟨rfl,rfl⟩:=he;refine ⟨?_,rfl⟩;rw [List.take_of_length_le (by simp)]
theorem VB {v:Value}{l:List Int}(r:l.length≤65536) (h:Wr w v (l.map (Value.int .i64))) (i:ia E w0 w rs) :
  tb prog 121 [v] w (fun m w'=>ia E w0 w' (.row m 3 1 l.length (l.map (Value.int .i64))::rs)):=by
 rcases h with ⟨q,a,c,rfl⟩ | ⟨b,o,c,rfl,s,hc⟩
 ·obtain rfl:l=[]:=List.map_eq_nil_iff.1 q;cases a with
  | none=>exact ⟨(slices_Clone_int_nil 0 c w).mono fun e w' he=>by
    obtain ⟨rfl,rfl⟩:=he;exact i.Ph 3 1⟩
  | some a=>exact ⟨(slices_Clone_int_zero a c w).mono fun e w' he=>by
    obtain ⟨m,rfl,g,-,d⟩:=he;obtain ⟨n,f⟩:=wy g;exact i.newRow ⟨d.os,d.tape,d.output,d.size,fun k f _=>d.block k f⟩ n f⟩
 ·refine ⟨(slices_Clone_int b o (l.map (Value.int .i64)).length c l w (by simp) (by simp;omega) ?_).mono fun e w' he=>?_⟩
  ·intro j p;rw [hc j (.int .i64 l[j]) (by simp [p])];simp [List.getElem?_eq_getElem p]
  ·obtain ⟨m,rfl,g,-,d⟩:=he;rw [List.take_of_length_le (by simp),List.length_map] at g;obtain ⟨n,f⟩:=wy g;exact i.newRow ⟨d.os,d.tape,d.output,d.size,fun k f _=>d.block k f⟩ n f
theorem WB {v:Value}{l:List Bool}(C:l.length≤65536) (h:Wr w v (l.map Value.bool)) (d:ia E w0 w rs) :
  tb prog 122 [v] w (fun s w'=>ia E w0 w' (.row s 4 1 l.length (l.map Value.bool)::rs)):=by
 rcases h with ⟨f,a,c,rfl⟩ | ⟨b,o,c,rfl,D,hc⟩
 ·obtain rfl:l=[]:=List.map_eq_nil_iff.1 f;cases a with
  | none=>exact ⟨(yE 0 c w).mono fun e w' he=>by
    obtain ⟨rfl,rfl⟩:=he;exact d.Ph 4 1⟩
  | some a =>
   refine enter func122 rfl (frm:=[_,_,_,_,_,_,_,_]) rfl ?_;refine wa ?_;refine Aa ?_;refine wl (fj Fa (ha Ta) ?_);refine sa ?_;refine ma ?_;refine wa ?_;refine wa ?_;refine Aa ?_;refine wl (vh (aa d0) (ha Qb) ?_);refine wl (sI underlying207 (aa d3) (ha Tb) ?_);refine sa ?_;refine ma ?_;refine Ul (aa d4) ?_;refine Oa ?_;refine ma ?_;refine wa ?_;refine Aa ?_;refine wl (YJ underlying207 wk d ?_);clear d;intro F G H d;refine pu (ha Xb) ?_;replace d:=d.Oo (n:=0) (sz:=Ja.sz Bool) d0 rfl (by decide) ya;refine wl (vh (aa d0) (ha mc) ?_);refine wl (Qz (α:=Bool) (l:=[]) (ys:=[]) (news:=[]) underlying207 wk rfl (aa d5) (aa d6) d d0 (fun e=>absurd rfl e) rfl (show app [] []=some [] from rfl) (by decide) ?_);clear d;intro v2 K y A d;cases (show _=y from A);replace d:=Sep.We d ya;refine pu (ha Gb) ?_;refine wl (fj (aa d7) (ha Ta) ?_);refine sa ?_;refine ma ?_;refine Za ?_;refine Jb rfl d2 ?_;exact d
 ·have Pa:∃ i z,prog.info? 4=some i∧i.zero=some z∧i.size=1∧i.bytes=1∧z.cells.size=1:=by
   obtain ⟨i,z,f,j,m,p,q⟩:=(wk).inf;exact ⟨i,z,f,j,p,q,by rw [m];rfl⟩
  obtain ⟨i,z,f,j,m,p,q⟩:=Pa;refine ⟨(BE i z 1 1 f j m p q (by decide) (fun w=>(wk).sizeOf) b o (l.map Value.bool).length c (l.map Value.bool) w (by simp) (by simp [maxLen];omega) (by simp;omega) hc (fun u hu=>?_)).mono fun e w' he=>?_⟩
  ·obtain ⟨x,-,rfl⟩:=List.mem_map.1 hu;rfl
  ·obtain ⟨s,rfl,t,-,g⟩:=he;rw [List.length_map] at t;obtain ⟨B,r⟩:=wy t;exact d.newRow ⟨g.os,g.tape,g.output,g.size,fun k r _=>g.block k r⟩ B r
theorem YD (μ:M) (l:List Value) (x:Bool) (h:Ja.cs μ l x):l=[.bool x]:=h
theorem Ft {α:Type}[Ja α]{f:α→Value}(a:∀ (μ:M) (x:α),Ja.cs μ [f x] x):∀ (l:List α),na μ (l.map f) l
 | []=>rfl
 | x::l=>⟨[f x],_,rfl,a μ x,Ft a l⟩
end
end Go.Proofs.YtbhncpgjmkcdcaaGreatDoor
namespace Go.Proofs.YtbhncpgjmkcdcaaGreatDoor
open Go.Ab Go.jc Go.Y Go.RowKit
section
variable {μ E : M}{w0 w : World}{J rs : List mb}
theorem CB {μ : M} : ∀ (l : List (List UInt8)), na μ (l.map S) l
  | [] => rfl
  | x :: l => ⟨[S x], _, rfl, rfl, CB l⟩
theorem eJ {v : Value}{T : TypeId}{cells : List Value}{l d : List (List UInt8)}{i j : Int}(y : na E cells l) (g : Kx l i j = some d) (t : ia E w0 w (.row v T 1 l.length cells :: J)) :
    tb Tryz.prog 29 [v, .int .i64 i, .int .i64 j] w (fun a w' => ∃ c, na E c d ∧ ia E w0 w' (.row a T 1 d.length c :: J)):= by
  obtain ⟨⟨D, F, z⟩, rfl⟩ := del_eq g;obtain ⟨i, rfl⟩ : ∃ n : Nat, i = n := ⟨i.toNat, by omega⟩;obtain ⟨j, rfl⟩ : ∃ n : Nat, j = n := ⟨j.toNat, by omega⟩;simp only [Int.toNat_natCast];have f : Row w v T 1 l.length cells := t.all _ (List.mem_cons_self ..);have Fa : cells = l.map S := vz Tx y;subst Fa;have mk : ∀ (w' : World) (a : Value) (ys : List (List UInt8)), Row w' a T 1 ys.length (ys.map S) → Fh (fun b => some b ≠ v.ownBlock) w w' → a.ownBlock = v.ownBlock → ∃ c, na E c ys ∧ ia E w0 w' (.row a T 1 ys.length c :: J):= fun w' a ys m p u =>
    ⟨ys.map S, CB ys, Sep.row t (d0 (α := mb)) (ya (α := mb)) m p (.inl u)⟩
  rcases f.2 with ⟨rfl, A⟩ | ⟨b, o, cap, cur, rfl, x, m, p, u, B⟩
  · obtain rfl := List.eq_nil_of_length_eq_zero A;obtain rfl : j = 0 := by simp at z;omega
    obtain rfl : i = 0 := by omega
    exact ⟨(Tryz.slices_Delete_string_empty none 0 w).mono fun e w' he => by
      obtain ⟨rfl, rfl⟩ := he;exact mk _ _ [] f (Fh.refl _) rfl⟩
  · refine ⟨(Tryz.slices_Delete_string b o cap i j l w ?_ m p (by omega) (by omega)).mono fun e w' he => ?_⟩
    · intro k r;have s : k < l.length := by simpa using r
      refine ⟨?_, tF x⟩;rw [cell_of_row w b (o + k) cur T (0, 0) x];have ra : (l.map S)[k]? = some (S l[k]):= by simp [s]
      rw [← B, List.getElem?_take, Nat.mul_one, if_pos s, List.getElem?_drop] at ra;rw [← Array.getElem?_toList, ra];congr 1;rw [getElem!_pos _ k (by simpa using s)];rfl
    · obtain ⟨rfl, q, rfl⟩ := he;obtain ⟨C, r2⟩ := vI (q := q) f (show i ≤ j by omega) (show j ≤ l.length by omega);have len : (l.take i ++ l.drop j).length = l.length - (j - i):= by simp;omega
      have := mk _ _ _ C (r2.mono fun k r h => r (by rw [h];rfl)) rfl;rw [len] at this ⊢;exact this
end
end Go.Proofs.YtbhncpgjmkcdcaaGreatDoor
