/- Texts of Fl. -/
import Derived.Test.YticaondbdmcpoaaGreatDoorCXt
import Derived.Test.YticaondbdmcpoaaGreatDoorProg
import Derived.KernelRfl
import Derived.Shelf.Strconv.Itoa0
import Derived.Shelf.Strconv.Itoa1
import Derived.Shelf.LaysM
import Derived.Shelf.Strconv.Itoa2
import Derived.Shelf.Strconv.Itoa3
import Derived.Shelf.Strconv.ParseIntEmpty
import Derived.Shelf.Strconv.Clone
import Derived.Shelf.Strconv.SyntaxError
import Derived.Shelf.LaysC
import Derived.Shelf.Strconv.ToError
import Derived.Shelf.Strconv.Lower
import Derived.Shelf.Strconv.ParseUint10
import Derived.Shelf.Strconv.ParseUint10Empty
import Derived.Shelf.Strconv.ParseUint10Any
import Derived.Shelf.Strconv.ParseInt10
import Derived.Shelf.Strconv.RangeError
import Derived.Shelf.Strconv.ToErrorRange
import Derived.Shelf.Strconv.ParseUintEmpty
import Derived.Shelf.Strconv.ParseUint10b64
import Derived.Shelf.Strconv.ParseUint10b32
import Derived.Shelf.Strconv.ParseUint10b16
import Derived.Shelf.Strconv.ParseUint10b8
import Derived.Shelf.Strconv.ParseUint10At
import Derived.Shelf.Strconv.ParseInt10At64
import Derived.Shelf.Strconv.ParseInt10At32
import Derived.Shelf.Strconv.ParseInt10At16
import Derived.Shelf.Strconv.ParseInt10At8
import Derived.Shelf.Strconv.ParseInt10All
import Derived.Shelf.Strconv.ParseIntPublic10
import Derived.Shelf.Strings.Search1
import Derived.Shelf.Strings.Search2
import Derived.Shelf.Strings.Search3
import Derived.Shelf.Strings.Shaped
import Derived.Shelf.Strings.Prefix
import Derived.Shelf.Slices.Turned
import Derived.Ground.Names2Prog
import Derived.Shelf.Slices.Clone
import Derived.Ground.SlgnProg
import Derived.Shelf.SlicesE.Clone
import Derived.Test.YticaondbdmcpoaaGreatDoorCMd
import Derived.Test.YticaondbdmcpoaaGreatDoorCXu
import Derived.Lib.SlicesS
set_option linter.unusedSimpArgs false
set_option linter.unusedVariables false
set_option linter.unusedSectionVars false
namespace Go.Proofs.YticaondbdmcpoaaGreatDoor
open Go.Rb Go.ec Tryz
instance aN:Wb prog 8:=Vc func8
instance CQ:Wb prog 9:=Vc func9
instance rL:Wb prog 10:=Vc func10
instance sL:Wb prog 11:=Vc func11
instance TP:Wb prog 12:=Vc func12
instance UP:Wb prog 13:=Vc func13
instance tL:Wb prog 14:=Vc func14
instance fF:Wb prog 18:=Vc func18
instance VP:Wb prog 19:=Vc func19
instance gF:Wb prog 20:=Vc func20
instance uL:Wb prog 21:=Vc func21
instance vL:Wb prog 22:=Vc func22
instance wL:Wb prog 23:=Vc func23
instance XP:Wb prog 24:=Vc func24
instance xL:Wb prog 25:=Vc func25
instance YP:Wb prog 26:=Vc func26
instance ZP:Wb prog 33:=Vc func33
instance yL:Wb prog 34:=Vc func34
instance gB:Wb prog 35:=Vc func35
instance aQ:Wb prog 36:=Vc func36
instance bQ:Wb prog 37:=Vc func37
instance cQ:Wb prog 38:=Vc func38
instance dQ:Wb prog 39:=Vc func39
instance zL:Wb prog 40:=Vc func40
instance eQ:Wb prog 42:=Vc func42
instance AL:Wb prog 43:=Vc func43
instance fQ:Wb prog 44:=Vc func44
instance BL:Wb prog 45:=Vc func45
instance CL:Wb prog 55:=Vc func55
instance DL:Wb prog 56:=Vc func56
instance gQ:Wb prog 57:=Vc func57
instance ts:Wb prog 59:=Vc func59
instance hQ:Wb prog 60:=Vc func60
instance EL:Wb prog 61:=Vc func61
instance iQ:Wb prog 62:=Vc func62
instance jQ:Wb prog 63:=Vc func63
instance kQ:Wb prog 64:=Vc func64
instance hF:Wb prog 65:=Vc func65
instance lQ:Wb prog 66:=Vc func66
instance mQ:Wb prog 67:=Vc func67
instance FL:Wb prog 68:=Vc func68
instance iB:Wb prog 69:=Vc func69
instance GL:Wb prog 70:=Vc func70
instance jB:Wb prog 71:=Vc func71
instance HL:Wb prog 72:=Vc func72
instance nQ:Wb prog 73:=Vc func73
instance oQ:Wb prog 74:=Vc func74
instance pQ:Wb prog 75:=Vc func75
instance qQ:Wb prog 76:=Vc func76
instance rQ:Wb prog 77:=Vc func77
instance sQ:Wb prog 78:=Vc func78
instance tQ:Wb prog 80:=Vc func80
instance uQ:Wb prog 81:=Vc func81
instance vQ:Wb prog 97:=Vc func97
instance gw:Wb prog 98:=Vc func98
instance Cy:Wb prog 99:=Vc func99
instance xO:Wb prog 100:=Vc func100
instance yO:Wb prog 101:=Vc func101
instance zO:Wb prog 102:=Vc func102
instance AO:Wb prog 103:=Vc func103
instance BO:Wb prog 104:=Vc func104
instance CO:Wb prog 105:=Vc func105
instance DO:Wb prog 106:=Vc func106
instance NA:Wb prog 107:=Vc func107
instance EO:Wb prog 108:=Vc func108
instance FO:Wb prog 109:=Vc func109
instance GO:Wb prog 110:=Vc func110
instance En:Wb prog 111:=Vc func111
instance OA:Wb prog 112:=Vc func112
instance HO:Wb prog 113:=Vc func113
instance JO:Wb prog 114:=Vc func114
instance KO:Wb prog 118:=Vc func118
instance LO:Wb prog 119:=Vc func119
instance Gt:Wb prog 120:=Vc func120
instance MO:Wb prog 121:=Vc func121
instance NO:Wb prog 122:=Vc func122
instance OO:Wb prog 123:=Vc func123
instance PO:Wb prog 124:=Vc func124
instance QO:Wb prog 125:=Vc func125
instance PA:Wb prog 147:=Vc func147
instance vE:Wb prog 148:=Vc func148
instance YJ:Wb prog 149:=Vc func149
instance RO:Wb prog 150:=Vc func150
instance SO:Wb prog 151:=Vc func151
instance TO:Wb prog 152:=Vc func152
instance UO:Wb prog 158:=Vc func158
instance ZJ:Wb prog 159:=Vc func159
instance aK:Wb prog 160:=Vc func160
instance wE:Wb prog 161:=Vc func161
instance VO:Wb prog 162:=Vc func162
instance WO:Wb prog 163:=Vc func163
instance XO:Wb prog 183:=Vc func183
instance YO:Wb prog 184:=Vc func184
instance Xp:Wb prog 185:=Vc func185
instance QA:Wb prog 186:=Vc func186
instance bK:Wb prog 193:=Vc func193
instance ZO:Wb prog 194:=Vc func194
instance xE:Wb prog 199:=Vc func199
instance aP:Wb prog 200:=Vc func200
instance bP:Wb prog 201:=Vc func201
instance cP:Wb prog 202:=Vc func202
instance dP:Wb prog 205:=Vc func205
instance eP:Wb prog 206:=Vc func206
instance fP:Wb prog 207:=Vc func207
instance gP:Wb prog 213:=Vc func213
instance sg:Nc prog 2 false [.int .i64 0] 1 8:=Ze (z:=.int .i64 0) underlying2
instance Jd:Nc prog 3 false [.int .i64 0] 1 8:=Ze (z:=.int .i64 0) underlying3
instance Bq:Nc prog 4 false [.bool false] 1 1:=Ze (z:=.bool false) underlying4
instance Ye:Nc prog 9 false [S []] 1 16:=Ze (z:=S []) underlying9
instance mv:Nc prog 22 false [.slice none 0 0] 1 24:=Ze (z:=.slice none 0 0) underlying22
instance az:Nc prog 24 false [.int .i64 0] 1 8:=Ze (z:=.int .i64 0) underlying24
instance Gd:Nc prog 26 true [.int .i64 0,.int .i64 0] 2 16:=Ze (z:=.agg #[.int .i64 0,.int .i64 0]) underlying26
instance pq:Nc prog 28 false [.slice none 0 0] 1 24:=Ze (z:=.slice none 0 0) underlying28
instance Wt:Nc prog 29 false [.slice none 0 0] 1 24:=Ze (z:=.slice none 0 0) underlying29
instance Zk:Nc prog 31 true [.slice none 0 0,.slice none 0 0,.int .i64 0] 3 56:=Ze (z:=.agg #[.slice none 0 0,.slice none 0 0,.int .i64 0]) underlying31
instance Vj:Nc prog 34 false [.slice none 0 0] 1 24:=Ze (z:=.slice none 0 0) underlying34
instance Tl:Nc prog 36 true [.int .i64 0,.int .i64 0,.int .i64 0,.slice none 0 0] 4 48:=Ze (z:=.agg #[.int .i64 0,.int .i64 0,.int .i64 0,.slice none 0 0]) underlying36
instance fc:Nc prog 42 true [.int .i64 0,S []] 2 24:=Ze (z:=.agg #[.int .i64 0,S []]) underlying42
instance Gw:Nc prog 43 false [.slice none 0 0] 1 24:=Ze (z:=.slice none 0 0) underlying43
instance Sn:Nc prog 44 false [.slice none 0 0] 1 24:=Ze (z:=.slice none 0 0) underlying44
instance th:Nc prog 46 true [.int .i64 0,S [],.int .i64 0,S [],.int .i64 0,S [],.int .i64 0,.slice none 0 0,.slice none 0 0] 9 128:=Ze (z:=.agg #[.int .i64 0,S [],.int .i64 0,S [],.int .i64 0,S [],.int .i64 0,.slice none 0 0,.slice none 0 0]) underlying46
instance UB:Nc prog 64 true [] 0 0:=Ze (z:=.agg #[]) underlying64
instance Xt:Nc prog 65 false [.pointer none] 1 8:=Ze (z:=.pointer none) underlying65
instance Hw:Nc prog 66 false [.map none] 1 8:=Ze (z:=.map none) underlying66
instance bz:Nc prog 67 false [.map none] 1 8:=Ze (z:=.map none) underlying67
instance cz:Nc prog 68 false [.map none] 1 8:=Ze (z:=.map none) underlying68
instance NN:Nc prog 70 true [.map none,.map none,.map none,.int .i64 0] 4 32:=Ze (z:=.agg #[.map none,.map none,.map none,.int .i64 0]) underlying70
instance qq:Nc prog 73 false [.pointer none] 1 8:=Ze (z:=.pointer none) underlying73
instance pk:Nc prog 74 false [.pointer none] 1 8:=Ze (z:=.pointer none) underlying74
instance ON:Nc prog 76 true [.int .i64 0,.slice none 0 0] 2 32:=Ze (z:=.agg #[.int .i64 0,.slice none 0 0]) underlying76
instance cg:Nc prog 77 false [.pointer none] 1 8:=Ze (z:=.pointer none) underlying77
instance VB:Nc prog 80 false [.nilFunc] 1 8:=Ze (z:=.nilFunc) underlying80
instance Tn:Nc prog 81 false [.nilFunc] 1 8:=Ze (z:=.nilFunc) underlying81
instance Ls:Nc prog 82 false [.slice none 0 0] 1 24:=Ze (z:=.slice none 0 0) underlying82
instance Gh:Nc prog 83 false [.pointer none] 1 8:=Ze (z:=.pointer none) underlying83
instance PN:Nc prog 85 true [.pointer none,.nilFunc,.slice none 0 0,.pointer none,.int .i64 0,.int .i64 0,.int .i64 0,.slice none 0 0] 8 96:=Ze (z:=.agg #[.pointer none,.nilFunc,.slice none 0 0,.pointer none,.int .i64 0,.int .i64 0,.int .i64 0,.slice none 0 0]) underlying85
instance Wj:Nc prog 91 true [S [],.int .i64 0,S []] 3 40:=Ze (z:=.agg #[S [],.int .i64 0,S []]) underlying91
instance bN:Nc prog 106 false [.pointer none] 1 8:=Ze (z:=.pointer none) underlying106
instance Rl:Nc prog 110 false [.slice none 0 0] 1 24:=Ze (z:=.slice none 0 0) underlying110
instance qw:Nc prog 112 true [.slice none 0 0,.slice none 0 0,.slice none 0 0] 3 72:=Ze (z:=.agg #[.slice none 0 0,.slice none 0 0,.slice none 0 0]) underlying112
instance sw:Nc prog 115 true [S [],S [],S []] 3 48:=Ze (z:=.agg #[S [],S [],S []]) underlying115
instance cN:Nc prog 116 false [.pointer none] 1 8:=Ze (z:=.pointer none) underlying116
instance kr:Nc prog 117 true [.slice none 0 0,.pointer none] 2 32:=Ze (z:=.agg #[.slice none 0 0,.pointer none]) underlying117
instance np:Nc prog 120 false [.pointer none] 1 8:=Ze (z:=.pointer none) underlying120
instance Sl:Nc prog 122 false [.nilFunc] 1 8:=Ze (z:=.nilFunc) underlying122
instance tw:Nc prog 124 true [.pointer none,.pointer none,.bool false,.bool false,.bool false,.pointer none,.nilFunc,.nilFunc] 8 48:=Ze (z:=.agg #[.pointer none,.pointer none,.bool false,.bool false,.bool false,.pointer none,.nilFunc,.nilFunc]) underlying124
instance AB:Nc prog 126 false [.pointer none] 1 8:=Ze (z:=.pointer none) underlying126
instance BB:Nc prog 128 true [.nilFunc,.nilFunc] 2 16:=Ze (z:=.agg #[.nilFunc,.nilFunc]) underlying128
instance lr:Nc prog 129 false [.slice none 0 0] 1 24:=Ze (z:=.slice none 0 0) underlying129
instance DQ:Nc prog 134 false [.pointer none] 1 8:=Ze (z:=.pointer none) underlying134
instance dN:Nc prog 136 true [.slice none 0 0,.int .i64 0,.int .i64 0] 3 40:=Ze (z:=.agg #[.slice none 0 0,.int .i64 0,.int .i64 0]) underlying136
instance Zm:Nc prog 140 false [.slice none 0 0] 1 24:=Ze (z:=.slice none 0 0) underlying140
instance Ff:Nc prog 142 true [.int .i64 0,.int .i64 0,S [],.slice none 0 0] 4 56:=Ze (z:=.agg #[.int .i64 0,.int .i64 0,S [],.slice none 0 0]) underlying142
instance ti:Nc prog 144 true [.int .i64 0,S [],.int .i64 0,.int .i64 0,S [],.slice none 0 0,.slice none 0 0,.slice none 0 0] 8 128:=Ze (z:=.agg #[.int .i64 0,S [],.int .i64 0,.int .i64 0,S [],.slice none 0 0,.slice none 0 0,.slice none 0 0]) underlying144
instance eN:Nc prog 178 true [.slice none 0 0,.map none] 2 32:=Ze (z:=.agg #[.slice none 0 0,.map none]) underlying178
instance CB:Nc prog 180 false [.nilFunc] 1 8:=Ze (z:=.nilFunc) underlying180
instance Jo:Nc prog 185 false [.pointer none] 1 8:=Ze (z:=.pointer none) underlying185
instance jq:Nc prog 186 false [.nilFunc] 1 8:=Ze (z:=.nilFunc) underlying186
instance mr:Nc prog 189 false [.pointer none] 1 8:=Ze (z:=.pointer none) underlying189
instance KF:Nc prog 191 true [S [],.int .i64 0,.pointer none] 3 32:=Ze (z:=.agg #[S [],.int .i64 0,.pointer none]) underlying191
instance ml:Nc prog 196 true [.int .i64 0,S [],.int .i64 0,.int .i64 0] 4 40:=Ze (z:=.agg #[.int .i64 0,S [],.int .i64 0,.int .i64 0]) underlying196
instance fN:Nc prog 213 true [.int .i64 0] 1 8:=Ze (z:=.agg #[.int .i64 0]) underlying213
instance uw:Nc prog 248 false [.pointer none] 1 8:=Ze (z:=.pointer none) underlying248
instance Is:Nc prog 249 false [.map none] 1 8:=Ze (z:=.map none) underlying249
instance iv:Nc prog 250 false [.slice none 0 0] 1 24:=Ze (z:=.slice none 0 0) underlying250
instance gN:Nc prog 252 true [.pointer none,.pointer none,.slice none 0 0] 3 40:=Ze (z:=.agg #[.pointer none,.pointer none,.slice none 0 0]) underlying252
instance LF:Nc prog 262 false [.nilFunc] 1 8:=Ze (z:=.nilFunc) underlying262
instance Js:Nc prog 343 true [.map none,.bool false] 2 16:=Ze (z:=.agg #[.map none,.bool false]) underlying343
theorem QN:prog.eqGuardType prog.depth 26=false:=by kernel_rfl
theorem aG:prog.eqGuardType prog.depth 42=false:=by kernel_rfl
theorem RN:prog.stoodInHeld 26=false:=by kernel_rfl
theorem bG:prog.stoodInHeld 42=false:=by kernel_rfl
instance hP:re prog 112 0 0:=Ee underlying112 rfl rfl rfl Rl rfl
instance iP:re prog 112 1 1:=Ee underlying112 rfl rfl rfl Rl rfl
instance jP:re prog 112 2 2:=Ee underlying112 rfl rfl rfl Rl rfl
instance kP:re prog 115 1 1:=Ee underlying115 rfl rfl rfl Ye rfl
instance lP:re prog 115 2 2:=Ee underlying115 rfl rfl rfl Ye rfl
instance mP:re prog 117 0 0:=Ee underlying117 rfl rfl rfl Rl rfl
instance nP:re prog 117 1 1:=Ee underlying117 rfl rfl rfl cN rfl
instance oP:re prog 124 0 0:=Ee underlying124 rfl rfl rfl qq rfl
instance pP:re prog 124 1 1:=Ee underlying124 rfl rfl rfl np rfl
instance qP:re prog 124 2 2:=Ee underlying124 rfl rfl rfl Bq rfl
instance rP:re prog 124 3 3:=Ee underlying124 rfl rfl rfl Bq rfl
instance sP:re prog 124 4 4:=Ee underlying124 rfl rfl rfl Bq rfl
instance tP:re prog 124 5 5:=Ee underlying124 rfl rfl rfl Gh rfl
instance uP:re prog 124 6 6:=Ee underlying124 rfl rfl rfl Sl rfl
instance vP:re prog 124 7 7:=Ee underlying124 rfl rfl rfl Sl rfl
instance wP:re prog 128 0 0:=Ee underlying128 rfl rfl rfl Sl rfl
instance xP:re prog 128 1 1:=Ee underlying128 rfl rfl rfl Tn rfl
instance yP:re prog 136 0 0:=Ee underlying136 rfl rfl rfl lr rfl
instance zP:re prog 136 2 2:=Ee underlying136 rfl rfl rfl Jd rfl
instance RA:re prog 142 0 0:=Ee underlying142 rfl rfl rfl Jd rfl
instance AP:re prog 142 1 1:=Ee underlying142 rfl rfl rfl sg rfl
instance SA:re prog 142 2 2:=Ee underlying142 rfl rfl rfl Ye rfl
instance BP:re prog 142 3 3:=Ee underlying142 rfl rfl rfl Zm rfl
instance cK:re prog 144 0 0:=Ee underlying144 rfl rfl rfl Jd rfl
instance dK:re prog 144 1 1:=Ee underlying144 rfl rfl rfl Ye rfl
instance CP:re prog 144 2 2:=Ee underlying144 rfl rfl rfl Ff rfl
instance DP:re prog 144 3 6:=Ee underlying144 rfl rfl rfl Sn rfl
instance EP:re prog 144 4 7:=Ee underlying144 rfl rfl rfl Sn rfl
instance FP:re prog 178 1 1:=Ee underlying178 rfl rfl rfl Hw rfl
instance eK:re prog 191 0 0:=Ee underlying191 rfl rfl rfl Ye rfl
instance yE:re prog 191 1 1:=Ee underlying191 rfl rfl rfl sg rfl
instance fK:re prog 191 2 2:=Ee underlying191 rfl rfl rfl np rfl
instance GP:re prog 196 0 0:=Ee underlying196 rfl rfl rfl Jd rfl
instance HP:re prog 196 1 1:=Ee underlying196 rfl rfl rfl Ye rfl
instance IP:re prog 196 2 2:=Ee underlying196 rfl rfl rfl sg rfl
instance JP:re prog 196 3 3:=Ee underlying196 rfl rfl rfl Jd rfl
instance KP:re prog 213 0 0:=Ee underlying213 rfl rfl rfl Jd rfl
instance LP:re prog 252 0 0:=Ee underlying252 rfl rfl rfl bN rfl
instance MP:re prog 252 1 1:=Ee underlying252 rfl rfl rfl qq rfl
instance NP:re prog 252 2 2:=Ee underlying252 rfl rfl rfl iv rfl
instance IL:re prog 26 0 0:=Ee underlying26 rfl rfl rfl az rfl
instance iF:re prog 31 0 0:=Ee underlying31 rfl rfl rfl pq rfl
instance jF:re prog 31 1 1:=Ee underlying31 rfl rfl rfl Wt rfl
instance JL:re prog 31 2 2:=Ee underlying31 rfl rfl rfl Jd rfl
instance OP:re prog 343 0 0:=Ee underlying343 rfl rfl rfl cz rfl
instance QP:re prog 343 1 1:=Ee underlying343 rfl rfl rfl Bq rfl
instance Dy:re prog 36 0 0:=Ee underlying36 rfl rfl rfl Jd rfl
instance iw:re prog 36 1 1:=Ee underlying36 rfl rfl rfl Jd rfl
instance kF:re prog 36 2 2:=Ee underlying36 rfl rfl rfl Jd rfl
instance lF:re prog 36 3 3:=Ee underlying36 rfl rfl rfl Vj rfl
instance wQ:re prog 42 0 0:=Ee underlying42 rfl rfl rfl Jd rfl
instance xQ:re prog 42 1 1:=Ee underlying42 rfl rfl rfl Ye rfl
instance Ey:re prog 46 0 0:=Ee underlying46 rfl rfl rfl Jd rfl
instance kB:re prog 46 1 1:=Ee underlying46 rfl rfl rfl Ye rfl
instance yQ:re prog 46 2 2:=Ee underlying46 rfl rfl rfl fc rfl
instance zQ:re prog 46 3 4:=Ee underlying46 rfl rfl rfl fc rfl
instance KL:re prog 46 4 6:=Ee underlying46 rfl rfl rfl Jd rfl
instance LL:re prog 46 5 7:=Ee underlying46 rfl rfl rfl Gw rfl
instance ML:re prog 46 6 8:=Ee underlying46 rfl rfl rfl Sn rfl
instance lB:re prog 70 0 0:=Ee underlying70 rfl rfl rfl Hw rfl
instance NL:re prog 70 1 1:=Ee underlying70 rfl rfl rfl bz rfl
instance mF:re prog 70 2 2:=Ee underlying70 rfl rfl rfl cz rfl
instance Fy:re prog 70 3 3:=Ee underlying70 rfl rfl rfl Jd rfl
instance AQ:re prog 76 0 0:=Ee underlying76 rfl rfl rfl Jd rfl
instance nF:re prog 76 1 1:=Ee underlying76 rfl rfl rfl Vj rfl
instance Gy:re prog 85 0 0:=Ee underlying85 rfl rfl rfl Xt rfl
instance oF:re prog 85 1 1:=Ee underlying85 rfl rfl rfl Tn rfl
instance Hy:re prog 85 2 2:=Ee underlying85 rfl rfl rfl Ls rfl
instance mB:re prog 85 3 3:=Ee underlying85 rfl rfl rfl Gh rfl
instance av:re prog 85 4 4:=Ee underlying85 rfl rfl rfl Tl rfl
instance OL:re prog 91 0 0:=Ee underlying91 rfl rfl rfl Ye rfl
instance BQ:re prog 91 1 1:=Ee underlying91 rfl rfl rfl fc rfl
theorem hN:Vi prog 115 #[(0,1),(1,1),(2,1)]:=xj underlying115 (fun _=>by kernel_rfl)
theorem MF:Vi prog 117 #[(0,1),(1,1)]:=xj underlying117 (fun _=>by kernel_rfl)
theorem NF:Vi prog 124 #[(0,1),(1,1),(2,1),(3,1),(4,1),(5,1),(6,1),(7,1)]:=xj underlying124 (fun _=>by kernel_rfl)
theorem DB:Vi prog 128 #[(0,1),(1,1)]:=xj underlying128 (fun _=>by kernel_rfl)
theorem iN:Vi prog 136 #[(0,1),(1,1),(2,1)]:=xj underlying136 (fun _=>by kernel_rfl)
theorem Py:Vi prog 142 #[(0,1),(1,1),(2,1),(3,1)]:=xj underlying142 (fun _=>by kernel_rfl)
theorem Qy:Vi prog 144 #[(0,1),(1,1),(2,4),(6,1),(7,1)]:=xj underlying144 (fun _=>by kernel_rfl)
theorem jN:Vi prog 178 #[(0,1),(1,1)]:=xj underlying178 (fun _=>by kernel_rfl)
theorem OF:Vi prog 191 #[(0,1),(1,1),(2,1)]:=xj underlying191 (fun _=>by kernel_rfl)
theorem kN:Vi prog 196 #[(0,1),(1,1),(2,1),(3,1)]:=xj underlying196 (fun _=>by kernel_rfl)
theorem lN:Vi prog 213 #[(0,1)]:=xj underlying213 (fun _=>by kernel_rfl)
theorem mN:Vi prog 252 #[(0,1),(1,1),(2,1)]:=xj underlying252 (fun _=>by kernel_rfl)
theorem Un:Vi prog 26 #[(0,1),(1,1)]:=xj underlying26 (fun _=>by kernel_rfl)
theorem SN:Vi prog 31 #[(0,1),(1,1),(2,1)]:=xj underlying31 (fun _=>by kernel_rfl)
theorem vw:Vi prog 343 #[(0,1),(1,1)]:=xj underlying343 (fun _=>by kernel_rfl)
theorem TN:Vi prog 36 #[(0,1),(1,1),(2,1),(3,1)]:=xj underlying36 (fun _=>by kernel_rfl)
theorem Iw:Vi prog 42 #[(0,1),(1,1)]:=xj underlying42 (fun _=>by kernel_rfl)
theorem WB:Vi prog 46 #[(0,1),(1,1),(2,2),(4,2),(6,1),(7,1),(8,1)]:=xj underlying46 (fun _=>by kernel_rfl)
theorem UN:Vi prog 64 #[]:=xj underlying64 (fun _=>by kernel_rfl)
theorem VN:Vi prog 70 #[(0,1),(1,1),(2,1),(3,1)]:=xj underlying70 (fun _=>by kernel_rfl)
theorem WN:Vi prog 76 #[(0,1),(1,1)]:=xj underlying76 (fun _=>by kernel_rfl)
theorem XN:Vi prog 85 #[(0,1),(1,1),(2,1),(3,1),(4,4)]:=xj underlying85 (fun _=>by kernel_rfl)
theorem YN:Vi prog 91 #[(0,1),(1,2)]:=xj underlying91 (fun _=>by kernel_rfl)
theorem PF:∀ w,(zeroValue 112).run prog w=.ok (.agg #[.slice none 0 0,.slice none 0 0,.slice none 0 0]) w:=Qt (by kernel_rfl)
theorem tz:∀ w,(zeroValue 3).run prog w=.ok (.int .i64 0) w:=Qt (by kernel_rfl)
theorem ZN:∀ w,(zeroValue 42).run prog w=.ok (.agg #[.int .i64 0,S []]) w:=Qt (by kernel_rfl)
theorem nv:∀ w,(zeroValue 73).run prog w=.ok (.pointer none) w:=Qt (by kernel_rfl)
theorem dz:∀ w,(zeroValue 74).run prog w=.ok (.pointer none) w:=Qt (by kernel_rfl)
end Go.Proofs.YticaondbdmcpoaaGreatDoor
namespace Go.Proofs
open Go.Shelf
def Tryz.CG:Go.Shelf.Ren:=⟨fun | 174=>72 | 247=>116 | 245=>117 | 287=>153 | 279=>154 | 280=>155 | 281=>156 | 282=>157 | 321=>187 | 322=>188 | 316=>189 | 171=>191 | 205=>190 | 243=>203 | 246=>208 | 283=>214 | 284=>215 | 285=>216 | 286=>217 | 129=>223 | 317=>222 | 318=>224 | 319=>225 | 320=>226 | 337=>227 | 338=>228 | n=>n,fun | 9=>9 | 3=>3 | 2=>2 | 75=>200 | 85=>201 | 4=>4 | 167=>294 | 5=>5 | 53=>295 | 175=>296 | 46=>298 | 168=>299 | 37=>321 | 0=>0 | 210=>323 | 21=>21 | 127=>336 | 145=>339 | 143=>337 | 171=>347 | 173=>350 | 212=>358 | 51=>352 | 20=>20 | 213=>359 | 232=>362 | 233=>363 | 80=>205 | n=>n,fun | 15=>0 | 16=>1 | 17=>3 | 18=>4 | 19=>5 | n=>n⟩
theorem Tryz.PI:Go.Proofs.LaysC.n174 Tryz.prog Tryz.CG:={
 mixed:=by kernel_rfl
 f129:=Tryz.func223.trans (congrArg some (by kernel_rfl))
 f171:=Tryz.func191.trans (congrArg some (by kernel_rfl))
 f174:=Tryz.func72.trans (congrArg some (by kernel_rfl))
 f205:=Tryz.func190.trans (congrArg some (by kernel_rfl))
 f243:=Tryz.func203.trans (congrArg some (by kernel_rfl))
 f245:=Tryz.func117.trans (congrArg some (by kernel_rfl))
 f246:=Tryz.func208.trans (congrArg some (by kernel_rfl))
 f247:=Tryz.func116.trans (congrArg some (by kernel_rfl))
 f279:=Tryz.func154.trans (congrArg some (by kernel_rfl))
 f280:=Tryz.func155.trans (congrArg some (by kernel_rfl))
 f281:=Tryz.func156.trans (congrArg some (by kernel_rfl))
 f282:=Tryz.func157.trans (congrArg some (by kernel_rfl))
 f283:=Tryz.func214.trans (congrArg some (by kernel_rfl))
 f284:=Tryz.func215.trans (congrArg some (by kernel_rfl))
 f285:=Tryz.func216.trans (congrArg some (by kernel_rfl))
 f286:=Tryz.func217.trans (congrArg some (by kernel_rfl))
 f287:=Tryz.func153.trans (congrArg some (by kernel_rfl))
 f316:=Tryz.func189.trans (congrArg some (by kernel_rfl))
 f317:=Tryz.func222.trans (congrArg some (by kernel_rfl))
 f318:=Tryz.func224.trans (congrArg some (by kernel_rfl))
 f319:=Tryz.func225.trans (congrArg some (by kernel_rfl))
 f320:=Tryz.func226.trans (congrArg some (by kernel_rfl))
 f321:=Tryz.func187.trans (congrArg some (by kernel_rfl))
 f322:=Tryz.func188.trans (congrArg some (by kernel_rfl))
 f337:=Tryz.func227.trans (congrArg some (by kernel_rfl))
 f338:=Tryz.func228.trans (congrArg some (by kernel_rfl))
 t0:=Tryz.underlying0
 a0:=Tryz.isAgg0
 z0:=Tryz.sizeOf0
 v0:=Tryz.zeroValue0
 t2:=Tryz.underlying2
 a2:=Tryz.isAgg2
 z2:=Tryz.sizeOf2
 v2:=Tryz.zeroValue2
 t3:=Tryz.underlying3
 a3:=Tryz.isAgg3
 z3:=Tryz.sizeOf3
 v3:=Tryz.zeroValue3
 t4:=Tryz.underlying4
 a4:=Tryz.isAgg4
 z4:=Tryz.sizeOf4
 v4:=Tryz.zeroValue4
 t5:=Tryz.underlying5
 a5:=Tryz.isAgg5
 z5:=Tryz.sizeOf5
 v5:=Tryz.zeroValue5
 t9:=Tryz.underlying9
 a9:=Tryz.isAgg9
 z9:=Tryz.sizeOf9
 v9:=Tryz.zeroValue9
 t20:=Tryz.underlying20
 a20:=Tryz.isAgg20
 z20:=Tryz.sizeOf20
 v20:=Tryz.zeroValue20
 t21:=Tryz.underlying21
 a21:=Tryz.isAgg21
 z21:=Tryz.sizeOf21
 v21:=Tryz.zeroValue21
 t37:=Tryz.underlying321
 a37:=Tryz.isAgg321
 z37:=Tryz.sizeOf321
 v37:=Tryz.zeroValue321
 t46:=Tryz.underlying298
 a46:=Tryz.isAgg298
 z46:=Tryz.sizeOf298
 v46:=Tryz.zeroValue298
 t51:=Tryz.underlying352
 a51:=Tryz.isAgg352
 z51:=Tryz.sizeOf352
 v51:=Tryz.zeroValue352
 t53:=Tryz.underlying295
 a53:=Tryz.isAgg295
 z53:=Tryz.sizeOf295
 v53:=Tryz.zeroValue295
 t75:=Tryz.underlying200
 a75:=Tryz.isAgg200
 z75:=Tryz.sizeOf200
 v75:=Tryz.zeroValue200
 t85:=Tryz.underlying201
 a85:=Tryz.isAgg201
 z85:=Tryz.sizeOf201
 v85:=Tryz.zeroValue201
 t127:=Tryz.underlying336
 a127:=Tryz.isAgg336
 z127:=Tryz.sizeOf336
 v127:=Tryz.zeroValue336
 t143:=Tryz.underlying337
 a143:=Tryz.isAgg337
 z143:=Tryz.sizeOf337
 v143:=Tryz.zeroValue337
 t145:=Tryz.underlying339
 a145:=Tryz.isAgg339
 z145:=Tryz.sizeOf339
 v145:=Tryz.zeroValue339
 t167:=Tryz.underlying294
 a167:=Tryz.isAgg294
 z167:=Tryz.sizeOf294
 v167:=Tryz.zeroValue294
 t168:=Tryz.underlying299
 a168:=Tryz.isAgg299
 z168:=Tryz.sizeOf299
 v168:=Tryz.zeroValue299
 t171:=Tryz.underlying347
 a171:=Tryz.isAgg347
 z171:=Tryz.sizeOf347
 v171:=Tryz.zeroValue347
 t173:=Tryz.underlying350
 a173:=Tryz.isAgg350
 z173:=Tryz.sizeOf350
 v173:=Tryz.zeroValue350
 t175:=Tryz.underlying296
 a175:=Tryz.isAgg296
 z175:=Tryz.sizeOf296
 v175:=Tryz.zeroValue296
 t210:=Tryz.underlying323
 a210:=Tryz.isAgg323
 z210:=Tryz.sizeOf323
 v210:=Tryz.zeroValue323
 t212:=Tryz.underlying358
 a212:=Tryz.isAgg358
 z212:=Tryz.sizeOf358
 v212:=Tryz.zeroValue358
 t213:=Tryz.underlying359
 a213:=Tryz.isAgg359
 z213:=Tryz.sizeOf359
 t232:=Tryz.underlying362
 a232:=Tryz.isAgg362
 z232:=Tryz.sizeOf362
 v232:=Tryz.zeroValue362
 t233:=Tryz.underlying363
 a233:=Tryz.isAgg363
 z233:=Tryz.sizeOf363
 v233:=Tryz.zeroValue363
 g15:=by kernel_rfl
 g16:=by kernel_rfl
 g17:=by kernel_rfl
 g18:=by kernel_rfl
 g19:=by kernel_rfl
 t80:=Tryz.underlying205
 a80:=Tryz.isAgg205
 z80:=Tryz.sizeOf205
 v80:=Tryz.zeroValue205
 i0:=by kernel_rfl
 i2:=by kernel_rfl
 i3:=by kernel_rfl
 i4:=by kernel_rfl
 i5:=by kernel_rfl
 i9:=by kernel_rfl
 i20:=by kernel_rfl
 i21:=by kernel_rfl
 i37:=by kernel_rfl
 i46:=by kernel_rfl
 i51:=by kernel_rfl
 i53:=by kernel_rfl
 i75:=by kernel_rfl
 i80:=by kernel_rfl
 i85:=by kernel_rfl
 i127:=by kernel_rfl
 i143:=by kernel_rfl
 i145:=by kernel_rfl
 i167:=by kernel_rfl
 i168:=by kernel_rfl
 i171:=by kernel_rfl
 i173:=by kernel_rfl
 i175:=by kernel_rfl
 i210:=by kernel_rfl
 i212:=by kernel_rfl
 i232:=by kernel_rfl
 i233:=by kernel_rfl
 m15:=by kernel_rfl
 m16:=by kernel_rfl
 m17:=by kernel_rfl
 m18:=by kernel_rfl
 m19:=by kernel_rfl
 c0:=by kernel_rfl
 c2:=by kernel_rfl
 c3:=by kernel_rfl
 c4:=by kernel_rfl
 c5:=by kernel_rfl
 c9:=by kernel_rfl
 c20:=by kernel_rfl
 c21:=by kernel_rfl
 c37:=by kernel_rfl
 c46:=by kernel_rfl
 c51:=by kernel_rfl
 c53:=by kernel_rfl
 c75:=by kernel_rfl
 c80:=by kernel_rfl
 c85:=by kernel_rfl
 c127:=by kernel_rfl
 c143:=by kernel_rfl
 c145:=by kernel_rfl
 c167:=by kernel_rfl
 c168:=by kernel_rfl
 c171:=by kernel_rfl
 c173:=by kernel_rfl
 c175:=by kernel_rfl
 c210:=by kernel_rfl
 c212:=by kernel_rfl
 c213:=by kernel_rfl
 c232:=by kernel_rfl
 c233:=by kernel_rfl }
open Go.RowKit in
theorem Tryz.strconv_ParseInt_10_at64_ok (s:ByteArray) (a:s.size≤9223372036854775806) (v:Int) (h:Lib.parseIntB 64 s.data.toList=.ok v) (w:World) :
  Calls Tryz.prog 72 #[.string s,.int .i64 10,.int .i64 64] w fun e w'=>e=.returned (.tuple #[.int .i64 v,.nilIface])∧(w'=w∨∃ t,w'=Lib.bytesWorld w 5 t):=Any.strconv_ParseInt_10_at64_ok Tryz.PI s a v h w
def Tryz.SG:Go.Shelf.Ren:=⟨fun | 144=>159 | 143=>192 | 219=>204 | 217=>209 | 225=>210 | 224=>211 | 267=>212 | 266=>218 | 314=>219 | n=>n,fun | 9=>9 | 4=>4 | 3=>3 | 5=>5 | 46=>298 | 146=>353 | 51=>352 | n=>n,fun | 1=>2 | n=>n⟩
theorem Tryz.gK:Go.Proofs.Lays.n144 Tryz.prog Tryz.SG:={
 mixed:=by kernel_rfl
 f143:=Tryz.func192.trans (congrArg some (by kernel_rfl))
 f144:=Tryz.func159.trans (congrArg some (by kernel_rfl))
 f217:=Tryz.func209.trans (congrArg some (by kernel_rfl))
 f219:=Tryz.func204.trans (congrArg some (by kernel_rfl))
 f224:=Tryz.func211.trans (congrArg some (by kernel_rfl))
 f225:=Tryz.func210.trans (congrArg some (by kernel_rfl))
 f266:=Tryz.func218.trans (congrArg some (by kernel_rfl))
 f267:=Tryz.func212.trans (congrArg some (by kernel_rfl))
 f314:=Tryz.func219.trans (congrArg some (by kernel_rfl))
 t3:=Tryz.underlying3
 a3:=Tryz.isAgg3
 z3:=Tryz.sizeOf3
 v3:=Tryz.zeroValue3
 t4:=Tryz.underlying4
 a4:=Tryz.isAgg4
 z4:=Tryz.sizeOf4
 v4:=Tryz.zeroValue4
 t5:=Tryz.underlying5
 a5:=Tryz.isAgg5
 z5:=Tryz.sizeOf5
 v5:=Tryz.zeroValue5
 t9:=Tryz.underlying9
 a9:=Tryz.isAgg9
 z9:=Tryz.sizeOf9
 v9:=Tryz.zeroValue9
 t46:=Tryz.underlying298
 a46:=Tryz.isAgg298
 z46:=Tryz.sizeOf298
 v46:=Tryz.zeroValue298
 t51:=Tryz.underlying352
 a51:=Tryz.isAgg352
 z51:=Tryz.sizeOf352
 v51:=Tryz.zeroValue352
 t146:=Tryz.underlying353
 a146:=Tryz.isAgg353
 z146:=Tryz.sizeOf353
 v146:=Tryz.zeroValue353
 g1:=by kernel_rfl }
open Go.RowKit Go.Lib in
theorem Tryz.strings_Contains (s sub:ByteArray) (m:Int) (w:World) (a:s.size<4294967281) (hm:w.cell? ⟨2,0,none⟩=some (.int .i64 m)) :
  Calls Tryz.prog 159 #[.string s,.string sub] w fun e w'=>e=.returned (.bool (Lib.contains s.data.toList sub.data.toList))∧w'=w:=Any.strings_Contains Tryz.gK s sub m w a hm
def Tryz.TG:Go.Shelf.Ren:=⟨fun | 110=>35 | 109=>58 | n=>n,fun | 31=>110 | 9=>9 | 4=>4 | 3=>3 | 0=>0 | n=>n,fun | n=>n⟩
theorem Tryz.zE:Go.Proofs.Lays.n110 Tryz.prog Tryz.TG:={
 mixed:=by kernel_rfl
 f109:=Tryz.func58.trans (congrArg some (by kernel_rfl))
 f110:=Tryz.func35.trans (congrArg some (by kernel_rfl))
 t0:=Tryz.underlying0
 a0:=Tryz.isAgg0
 z0:=Tryz.sizeOf0
 v0:=Tryz.zeroValue0
 t3:=Tryz.underlying3
 a3:=Tryz.isAgg3
 z3:=Tryz.sizeOf3
 v3:=Tryz.zeroValue3
 t4:=Tryz.underlying4
 a4:=Tryz.isAgg4
 z4:=Tryz.sizeOf4
 v4:=Tryz.zeroValue4
 t9:=Tryz.underlying9
 a9:=Tryz.isAgg9
 z9:=Tryz.sizeOf9
 v9:=Tryz.zeroValue9
 t31:=Tryz.underlying110
 a31:=Tryz.isAgg110
 z31:=Tryz.sizeOf110
 v31:=Tryz.zeroValue110 }
open Go.Lib in
theorem Tryz.slices_Contains_string (b off n c:Nat) (a:List ByteArray) (x:ByteArray) (w:World) (d:n≤a.length) (f:n≤9223372036854775807) (g:∀ j,j<a.length→w.cell? ⟨b,off+j,none⟩=some (.string (a.getD j ByteArray.empty))) :
  Calls Tryz.prog 35 #[.slice (some ⟨b,off,none⟩) n c,.string x] w fun e w'=>e=.returned (.bool (Lib.containsS (a.take n) x))∧w'=w:=Any.slices_Contains_string Tryz.zE b off n c a x w d f g
open Go.Lib in
theorem Tryz.slices_Contains_string_empty (a:Option Addr) (c:Nat) (x:ByteArray) (w:World) :
  Calls Tryz.prog 35 #[.slice a 0 c,.string x] w fun e w'=>e=.returned (.bool false)∧w'=w:=Any.slices_Contains_string_empty Tryz.zE a c x w
end Go.Proofs
namespace Go.Proofs.YticaondbdmcpoaaGreatDoor
open Go.Rb Go.ec Go.Y Tryz
def ke:M:=fun w=>∃ m,w.cell? ⟨2,0,none⟩=some (.int .i64 m)
theorem PL {I:M}{ca w:World}{rsF:List kb}{l:List UInt8}{r:Int}(g:QB l=some r) (b:ha I ca w rsF) :
  wc prog 72 [S l,.int .i64 10,.int .i64 64] w (fun v w'=>v=.tuple ⟨[.int .i64 r,.nilIface]⟩∧ha I ca w' rsF):=by
 unfold QB at g;split at g
 ·rename_i ia;cases a:Lib.parseIntB 64 l with
  | ok v =>
   rw [a] at g;obtain rfl:=Option.some.inj g;refine ⟨(strconv_ParseInt_10_at64_ok ⟨⟨l⟩⟩ ia v a w).mono fun e w' he=>?_⟩;obtain ⟨rfl,hw⟩:=he;refine ⟨rfl,?_⟩;rcases hw with rfl | ⟨t,rfl⟩
   ·exact b
   ·have h:=Lib.bytesWorld_below w 5 t;exact b.grow ⟨h.os,h.tape,h.output,h.size,fun k c _=>h.block k c⟩
  | _=>rw [a] at g; cases g
 ·cases g
theorem hK {I:M}{ca w:World}{rsF:List kb}{l sub:List UInt8}{b:Bool}(d:ga ke I) (g:Ny l sub=some b) (c:ha I ca w rsF) :
  wc prog 159 [S l,S sub] w (fun v w'=>v=.bool b∧ha I ca w' rsF):=by
 unfold Ny at g;split at g
 ·rename_i ia;obtain rfl:=Option.some.inj g;obtain ⟨m,hm⟩:=d w c.a;refine ⟨(strings_Contains ⟨⟨l⟩⟩ ⟨⟨sub⟩⟩ m w ia hm).mono fun e w' he=>?_⟩;obtain ⟨rfl,rfl⟩:=he;exact ⟨rfl,c⟩
 ·cases g
end Go.Proofs.YticaondbdmcpoaaGreatDoor
namespace Go.Proofs.YticaondbdmcpoaaGreatDoor
open Go.Rb Go.ec Go.Y Go.RowKit Tryz
section
variable {μ I:M}{ca w:World}{rsF rs:List kb}
def nB (w:World) (v:Value) (vs:List Value):Prop:=(vs=[]∧∃ a c,v=.slice a 0 c)∨∃ b o c,v=.slice (some ⟨b,o,none⟩) vs.length c∧vs.length≤9223372036854775807∧∀ j y,vs[j]?=some y→w.cell? ⟨b,o+j,none⟩=some y
theorem WD {α:Type}[ab α]{f:α→Value}(a:∀ (μ:M) (l:List Value) (x:α),ab.cs μ l x→l=[f x]):∀ {l:List α}{cells:List Value},Na μ cells l→cells=l.map f
 | [],cells,h=>by rw [Na] at h; simp [h]
 | x::l,cells,h=>by
  rw [Na] at h;obtain ⟨cs,t,rfl,b,c⟩:=h;rw [a _ _ _ b,WD a c];rfl
theorem XH {α:Type}[ab α]{f:α→Value}(c:∀ (μ:M) (l:List Value) (x:α),ab.cs μ l x→l=[f x]){v:Value}{T:TypeId}{l:List α}{cells:List Value}(h:Row w v T 1 l.length cells) (d:Na μ cells l):nB w v (l.map f):=by
 have e:=WD c d;subst e;rcases h.2 with ⟨rfl,b⟩ | ⟨g,o,cap,cur,rfl,i,k,b,n,m⟩
 ·exact .inl ⟨by rw [List.length_eq_zero_iff.1 b];rfl,none,0,rfl⟩
 ·refine .inr ⟨g,o,cap,by simp,by simp;exact Nat.le_trans k (Nat.le_trans b (by decide)),fun j y a=>?_⟩;rw [cell_of_row w g (o+j) cur T (0,0) i];rw [← m,List.getElem?_take] at a;split at a
  ·rw [List.getElem?_drop] at a;simpa using a
  ·cases a
theorem XD {α:Type}[ab α]{f:α→Value}(g:∀ (μ:M) (l:List Value) (x:α),ab.cs μ l x→l=[f x]) (i:ab.sz α=1){a:Option Addr}{c:Nat}{l:List α}(h:Ja μ a c l) (hw:μ w):nB w (.slice a l.length c) (l.map f):=by
 rcases h.el with rfl | ⟨b,o,rfl,p,k⟩
 ·exact .inl ⟨rfl,a,c,rfl⟩
 ·refine .inr ⟨b,o,c,by simp,by simp;exact Ja.len h,fun j y d=>?_⟩;simp only [List.getElem?_map,Option.map_eq_some_iff] at d;obtain ⟨x,m,rfl⟩:=d;obtain ⟨e,n⟩:=k j x m;rw [g _ _ _ n,i] at e;have:=e w hw 0 _ rfl;simpa using this
theorem XB (μ:M) (l:List Value) (x:List UInt8) (h:ab.cs μ l x):l=[S x]:=h
theorem Iz {v:Value}{l:List (List UInt8)}{x:List UInt8}(h:nB w v (l.map S)):wc prog 35 [v,S x] w (fun v w'=>v=.bool (l.contains x)∧w'=w):=by
 rcases h with ⟨f,a,c,rfl⟩ | ⟨b,o,c,rfl,ia,g⟩
 ·obtain rfl:l=[]:=List.map_eq_nil_iff.1 f;exact ⟨(slices_Contains_string_empty a c ⟨⟨x⟩⟩ w).mono fun e w' he=>by
   obtain ⟨rfl,rfl⟩:=he;exact ⟨rfl,rfl⟩⟩
 ·refine ⟨(slices_Contains_string b o (l.map S).length c (l.map fun y=>⟨⟨y⟩⟩) ⟨⟨x⟩⟩ w (by simp) ia ?_).mono fun e w' he=>?_⟩
  ·intro j i;have d:j<l.length:=by simpa using i
   rw [g j (S l[j]) (by simp [d])];simp [List.getElem?_eq_getElem d,S]
  ·obtain ⟨rfl,rfl⟩:=he;refine ⟨?_,rfl⟩;congr 1;rw [List.take_of_length_le (by simp),Bool.eq_iff_iff,Lib.containsS_iff,List.contains_iff_mem];constructor
   ·intro hm;obtain ⟨y,m,e⟩:=List.mem_map.1 hm;have k:y=x:=congrArg (fun b:ByteArray=>b.data.toList) e;rwa [← k]
   ·exact fun hm=>List.mem_map.2 ⟨x,hm,rfl⟩
end
end Go.Proofs.YticaondbdmcpoaaGreatDoor
