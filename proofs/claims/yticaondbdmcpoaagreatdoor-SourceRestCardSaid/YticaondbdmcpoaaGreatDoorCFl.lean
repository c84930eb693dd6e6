/- Texts of Fl. -/
import Derived.Test.YticaondbdmcpoaaGreatDoorCXt
import Derived.Test.YticaondbdmcpoaaGreatDoorProg
import Derived.KernelRfl
import Derived.Shelf.Strconv.Itoa0
import Derived.Shelf.Strconv.Itoa1
import Derived.Shelf.LaysM
import Derived.Shelf.Strconv.Itoa2
import Derived.Shelf.Strconv.Itoa3
import Derived.Shelf.Strconv.ParseIntEmpty
import Derived.Shelf.Strconv.Clone
import Derived.Shelf.Strconv.SyntaxError
import Derived.Shelf.LaysC
import Derived.Shelf.Strconv.ToError
import Derived.Shelf.Strconv.Lower
import Derived.Shelf.Strconv.ParseUint10
import Derived.Shelf.Strconv.ParseUint10Empty
import Derived.Shelf.Strconv.ParseUint10Any
import Derived.Shelf.Strconv.ParseInt10
import Derived.Shelf.Strconv.RangeError
import Derived.Shelf.Strconv.ToErrorRange
import Derived.Shelf.Strconv.ParseUintEmpty
import Derived.Shelf.Strconv.ParseUint10b64
import Derived.Shelf.Strconv.ParseUint10b32
import Derived.Shelf.Strconv.ParseUint10b16
import Derived.Shelf.Strconv.ParseUint10b8
import Derived.Shelf.Strconv.ParseUint10At
import Derived.Shelf.Strconv.ParseInt10At64
import Derived.Shelf.Strconv.ParseInt10At32
import Derived.Shelf.Strconv.ParseInt10At16
import Derived.Shelf.Strconv.ParseInt10At8
import Derived.Shelf.Strconv.ParseInt10All
import Derived.Shelf.Strconv.ParseIntPublic10
import Derived.Shelf.Strings.Search1
import Derived.Shelf.Strings.Search2
import Derived.Shelf.Strings.Search3
import Derived.Shelf.Strings.Shaped
import Derived.Shelf.Strings.Prefix
import Derived.Shelf.Slices.Turned
import Derived.Ground.Names2Prog
import Derived.Shelf.Slices.Clone
import Derived.Ground.SlgnProg
import Derived.Shelf.SlicesE.Clone
import Derived.Test.YticaondbdmcpoaaGreatDoorCMd
import Derived.Test.YticaondbdmcpoaaGreatDoorCXu
import Derived.Lib.SlicesS
set_option linter.unusedSimpArgs false
set_option linter.unusedVariables false
set_option linter.unusedSectionVars false
namespace Go.Proofs.YticaondbdmcpoaaGreatDoor
open Go.hc Go.Mc Tryz
instance XJ:jc prog 8:=Zc func8
instance QM:jc prog 9:=Zc func9
instance oM:jc prog 12:=Zc func12
instance pM:jc prog 19:=Zc func19
instance CC:jc prog 20:=Zc func20
instance AI:jc prog 21:=Zc func21
instance BI:jc prog 22:=Zc func22
instance CI:jc prog 23:=Zc func23
instance qM:jc prog 24:=Zc func24
instance rM:jc prog 33:=Zc func33
instance DI:jc prog 34:=Zc func34
instance By:jc prog 35:=Zc func35
instance sM:jc prog 36:=Zc func36
instance tM:jc prog 37:=Zc func37
instance Fq:jc prog 38:=Zc func38
instance uM:jc prog 39:=Zc func39
instance EI:jc prog 40:=Zc func40
instance vM:jc prog 42:=Zc func42
instance FI:jc prog 43:=Zc func43
instance wM:jc prog 44:=Zc func44
instance GI:jc prog 55:=Zc func55
instance HI:jc prog 56:=Zc func56
instance xM:jc prog 57:=Zc func57
instance Gq:jc prog 59:=Zc func59
instance yM:jc prog 60:=Zc func60
instance Cy:jc prog 61:=Zc func61
instance DC:jc prog 62:=Zc func62
instance Dy:jc prog 63:=Zc func63
instance zM:jc prog 64:=Zc func64
instance EC:jc prog 65:=Zc func65
instance II:jc prog 66:=Zc func66
instance AM:jc prog 67:=Zc func67
instance JI:jc prog 68:=Zc func68
instance Ey:jc prog 69:=Zc func69
instance KI:jc prog 70:=Zc func70
instance Fy:jc prog 71:=Zc func71
instance LI:jc prog 72:=Zc func72
instance BM:jc prog 73:=Zc func73
instance CM:jc prog 74:=Zc func74
instance DM:jc prog 75:=Zc func75
instance EM:jc prog 76:=Zc func76
instance FM:jc prog 77:=Zc func77
instance GM:jc prog 78:=Zc func78
instance HM:jc prog 80:=Zc func80
instance IM:jc prog 81:=Zc func81
instance JM:jc prog 97:=Zc func97
instance Eu:jc prog 98:=Zc func98
instance Gw:jc prog 99:=Zc func99
instance mL:jc prog 100:=Zc func100
instance nL:jc prog 101:=Zc func101
instance oL:jc prog 102:=Zc func102
instance pL:jc prog 103:=Zc func103
instance hH:jc prog 104:=Zc func104
instance NB:jc prog 105:=Zc func105
instance qL:jc prog 106:=Zc func106
instance jy:jc prog 107:=Zc func107
instance rL:jc prog 108:=Zc func108
instance nt:jc prog 109:=Zc func109
instance iH:jc prog 110:=Zc func110
instance Xl:jc prog 111:=Zc func111
instance ky:jc prog 112:=Zc func112
instance OB:jc prog 113:=Zc func113
instance PB:jc prog 114:=Zc func114
instance sL:jc prog 118:=Zc func118
instance tL:jc prog 119:=Zc func119
instance Jr:jc prog 120:=Zc func120
instance uL:jc prog 121:=Zc func121
instance vL:jc prog 122:=Zc func122
instance wL:jc prog 123:=Zc func123
instance xL:jc prog 124:=Zc func124
instance yL:jc prog 125:=Zc func125
instance ly:jc prog 147:=Zc func147
instance QB:jc prog 148:=Zc func148
instance jH:jc prog 149:=Zc func149
instance RB:jc prog 150:=Zc func150
instance zL:jc prog 151:=Zc func151
instance AL:jc prog 152:=Zc func152
instance BL:jc prog 158:=Zc func158
instance kH:jc prog 159:=Zc func159
instance lH:jc prog 160:=Zc func160
instance SB:jc prog 161:=Zc func161
instance CL:jc prog 162:=Zc func162
instance DL:jc prog 163:=Zc func163
instance EL:jc prog 183:=Zc func183
instance FL:jc prog 184:=Zc func184
instance Vn:jc prog 185:=Zc func185
instance my:jc prog 186:=Zc func186
instance mH:jc prog 193:=Zc func193
instance GL:jc prog 194:=Zc func194
instance TB:jc prog 199:=Zc func199
instance HL:jc prog 200:=Zc func200
instance IL:jc prog 201:=Zc func201
instance JL:jc prog 202:=Zc func202
instance KL:jc prog 205:=Zc func205
instance LL:jc prog 206:=Zc func206
instance ML:jc prog 207:=Zc func207
instance NL:jc prog 213:=Zc func213
instance Ve:Oc prog 2 false [.int .i64 0] 1 8:=Pe (z:=.int .i64 0) underlying2
instance Ad:Oc prog 3 false [.int .i64 0] 1 8:=Pe (z:=.int .i64 0) underlying3
instance tl:Oc prog 4 false [.bool false] 1 1:=Pe (z:=.bool false) underlying4
instance Sd:Oc prog 9 false [S []] 1 16:=Pe (z:=S []) underlying9
instance Sq:Oc prog 22 false [.slice none 0 0] 1 24:=Pe (z:=.slice none 0 0) underlying22
instance uz:Oc prog 24 false [.int .i64 0] 1 8:=Pe (z:=.int .i64 0) underlying24
instance zd:Oc prog 26 true [.int .i64 0,.int .i64 0] 2 16:=Pe (z:=.agg #[.int .i64 0,.int .i64 0]) underlying26
instance Tq:Oc prog 28 false [.slice none 0 0] 1 24:=Pe (z:=.slice none 0 0) underlying28
instance js:Oc prog 29 false [.slice none 0 0] 1 24:=Pe (z:=.slice none 0 0) underlying29
instance Kl:Oc prog 31 true [.slice none 0 0,.slice none 0 0,.int .i64 0] 3 56:=Pe (z:=.agg #[.slice none 0 0,.slice none 0 0,.int .i64 0]) underlying31
instance hh:Oc prog 34 false [.slice none 0 0] 1 24:=Pe (z:=.slice none 0 0) underlying34
instance tn:Oc prog 36 true [.int .i64 0,.int .i64 0,.int .i64 0,.slice none 0 0] 4 48:=Pe (z:=.agg #[.int .i64 0,.int .i64 0,.int .i64 0,.slice none 0 0]) underlying36
instance wc:Oc prog 42 true [.int .i64 0,S []] 2 24:=Pe (z:=.agg #[.int .i64 0,S []]) underlying42
instance vz:Oc prog 43 false [.slice none 0 0] 1 24:=Pe (z:=.slice none 0 0) underlying43
instance Ll:Oc prog 44 false [.slice none 0 0] 1 24:=Pe (z:=.slice none 0 0) underlying44
instance sh:Oc prog 46 true [.int .i64 0,S [],.int .i64 0,S [],.int .i64 0,S [],.int .i64 0,.slice none 0 0,.slice none 0 0] 9 128:=Pe (z:=.agg #[.int .i64 0,S [],.int .i64 0,S [],.int .i64 0,S [],.int .i64 0,.slice none 0 0,.slice none 0 0]) underlying46
instance wz:Oc prog 64 true [] 0 0:=Pe (z:=.agg #[]) underlying64
instance Bp:Oc prog 65 false [.pointer none] 1 8:=Pe (z:=.pointer none) underlying65
instance Uq:Oc prog 66 false [.map none] 1 8:=Pe (z:=.map none) underlying66
instance Ht:Oc prog 67 false [.map none] 1 8:=Pe (z:=.map none) underlying67
instance Wu:Oc prog 68 false [.map none] 1 8:=Pe (z:=.map none) underlying68
instance JK:Oc prog 70 true [.map none,.map none,.map none,.int .i64 0] 4 32:=Pe (z:=.agg #[.map none,.map none,.map none,.int .i64 0]) underlying70
instance jl:Oc prog 73 false [.pointer none] 1 8:=Pe (z:=.pointer none) underlying73
instance ih:Oc prog 74 false [.pointer none] 1 8:=Pe (z:=.pointer none) underlying74
instance KK:Oc prog 76 true [.int .i64 0,.slice none 0 0] 2 32:=Pe (z:=.agg #[.int .i64 0,.slice none 0 0]) underlying76
instance Pd:Oc prog 77 false [.pointer none] 1 8:=Pe (z:=.pointer none) underlying77
instance Xu:Oc prog 80 false [.nilFunc] 1 8:=Pe (z:=.nilFunc) underlying80
instance Ml:Oc prog 81 false [.nilFunc] 1 8:=Pe (z:=.nilFunc) underlying81
instance oo:Oc prog 82 false [.slice none 0 0] 1 24:=Pe (z:=.slice none 0 0) underlying82
instance qf:Oc prog 83 false [.pointer none] 1 8:=Pe (z:=.pointer none) underlying83
instance LK:Oc prog 85 true [.pointer none,.nilFunc,.slice none 0 0,.pointer none,.int .i64 0,.int .i64 0,.int .i64 0,.slice none 0 0] 8 96:=Pe (z:=.agg #[.pointer none,.nilFunc,.slice none 0 0,.pointer none,.int .i64 0,.int .i64 0,.int .i64 0,.slice none 0 0]) underlying85
instance Ik:Oc prog 91 true [S [],.int .i64 0,S []] 3 40:=Pe (z:=.agg #[S [],.int .i64 0,S []]) underlying91
instance Lu:Oc prog 106 false [.pointer none] 1 8:=Pe (z:=.pointer none) underlying106
instance Ki:Oc prog 110 false [.slice none 0 0] 1 24:=Pe (z:=.slice none 0 0) underlying110
instance Mu:Oc prog 112 true [.slice none 0 0,.slice none 0 0,.slice none 0 0] 3 72:=Pe (z:=.agg #[.slice none 0 0,.slice none 0 0,.slice none 0 0]) underlying112
instance Nu:Oc prog 115 true [S [],S [],S []] 3 48:=Pe (z:=.agg #[S [],S [],S []]) underlying115
instance YJ:Oc prog 116 false [.pointer none] 1 8:=Pe (z:=.pointer none) underlying116
instance vp:Oc prog 117 true [.slice none 0 0,.pointer none] 2 32:=Pe (z:=.agg #[.slice none 0 0,.pointer none]) underlying117
instance fi:Oc prog 120 false [.pointer none] 1 8:=Pe (z:=.pointer none) underlying120
instance Th:Oc prog 122 false [.nilFunc] 1 8:=Pe (z:=.nilFunc) underlying122
instance Ou:Oc prog 124 true [.pointer none,.pointer none,.bool false,.bool false,.bool false,.pointer none,.nilFunc,.nilFunc] 8 48:=Pe (z:=.agg #[.pointer none,.pointer none,.bool false,.bool false,.bool false,.pointer none,.nilFunc,.nilFunc]) underlying124
instance Oq:Oc prog 126 false [.pointer none] 1 8:=Pe (z:=.pointer none) underlying126
instance Zy:Oc prog 128 true [.nilFunc,.nilFunc] 2 16:=Pe (z:=.agg #[.nilFunc,.nilFunc]) underlying128
instance ho:Oc prog 129 false [.slice none 0 0] 1 24:=Pe (z:=.slice none 0 0) underlying129
instance RM:Oc prog 134 false [.pointer none] 1 8:=Pe (z:=.pointer none) underlying134
instance ZJ:Oc prog 136 true [.slice none 0 0,.int .i64 0,.int .i64 0] 3 40:=Pe (z:=.agg #[.slice none 0 0,.int .i64 0,.int .i64 0]) underlying136
instance mj:Oc prog 140 false [.slice none 0 0] 1 24:=Pe (z:=.slice none 0 0) underlying140
instance og:Oc prog 142 true [.int .i64 0,.int .i64 0,S [],.slice none 0 0] 4 56:=Pe (z:=.agg #[.int .i64 0,.int .i64 0,S [],.slice none 0 0]) underlying142
instance vj:Oc prog 144 true [.int .i64 0,S [],.int .i64 0,.int .i64 0,S [],.slice none 0 0,.slice none 0 0,.slice none 0 0] 8 128:=Pe (z:=.agg #[.int .i64 0,S [],.int .i64 0,.int .i64 0,S [],.slice none 0 0,.slice none 0 0,.slice none 0 0]) underlying144
instance aK:Oc prog 178 true [.slice none 0 0,.map none] 2 32:=Pe (z:=.agg #[.slice none 0 0,.map none]) underlying178
instance az:Oc prog 180 false [.nilFunc] 1 8:=Pe (z:=.nilFunc) underlying180
instance Rj:Oc prog 185 false [.pointer none] 1 8:=Pe (z:=.pointer none) underlying185
instance cl:Oc prog 186 false [.nilFunc] 1 8:=Pe (z:=.nilFunc) underlying186
instance Fk:Oc prog 189 false [.pointer none] 1 8:=Pe (z:=.pointer none) underlying189
instance eD:Oc prog 191 true [S [],.int .i64 0,.pointer none] 3 32:=Pe (z:=.agg #[S [],.int .i64 0,.pointer none]) underlying191
instance ek:Oc prog 196 true [.int .i64 0,S [],.int .i64 0,.int .i64 0] 4 40:=Pe (z:=.agg #[.int .i64 0,S [],.int .i64 0,.int .i64 0]) underlying196
instance bK:Oc prog 213 true [.int .i64 0] 1 8:=Pe (z:=.agg #[.int .i64 0]) underlying213
instance pn:Oc prog 248 false [.pointer none] 1 8:=Pe (z:=.pointer none) underlying248
instance jo:Oc prog 249 false [.map none] 1 8:=Pe (z:=.map none) underlying249
instance Lm:Oc prog 250 false [.slice none 0 0] 1 24:=Pe (z:=.slice none 0 0) underlying250
instance cK:Oc prog 252 true [.pointer none,.pointer none,.slice none 0 0] 3 40:=Pe (z:=.agg #[.pointer none,.pointer none,.slice none 0 0]) underlying252
instance bz:Oc prog 262 false [.nilFunc] 1 8:=Pe (z:=.nilFunc) underlying262
instance Pq:Oc prog 343 true [.map none,.bool false] 2 16:=Pe (z:=.agg #[.map none,.bool false]) underlying343
theorem rD:prog.eqGuardType prog.depth 42=false:=by kernel_rfl
theorem sD:prog.stoodInHeld 42=false:=by kernel_rfl
instance OL:Xd prog 112 0 0:=ie underlying112 rfl rfl rfl Ki rfl
instance PL:Xd prog 112 1 1:=ie underlying112 rfl rfl rfl Ki rfl
instance QL:Xd prog 112 2 2:=ie underlying112 rfl rfl rfl Ki rfl
instance RL:Xd prog 115 1 1:=ie underlying115 rfl rfl rfl Sd rfl
instance SL:Xd prog 115 2 2:=ie underlying115 rfl rfl rfl Sd rfl
instance TL:Xd prog 117 0 0:=ie underlying117 rfl rfl rfl Ki rfl
instance UL:Xd prog 117 1 1:=ie underlying117 rfl rfl rfl YJ rfl
instance nH:Xd prog 124 0 0:=ie underlying124 rfl rfl rfl jl rfl
instance oH:Xd prog 124 1 1:=ie underlying124 rfl rfl rfl fi rfl
instance VL:Xd prog 124 2 2:=ie underlying124 rfl rfl rfl tl rfl
instance Kr:Xd prog 124 3 3:=ie underlying124 rfl rfl rfl tl rfl
instance UB:Xd prog 124 4 4:=ie underlying124 rfl rfl rfl tl rfl
instance tw:Xd prog 124 5 5:=ie underlying124 rfl rfl rfl qf rfl
instance ny:Xd prog 124 6 6:=ie underlying124 rfl rfl rfl Th rfl
instance WL:Xd prog 124 7 7:=ie underlying124 rfl rfl rfl Th rfl
instance XL:Xd prog 128 0 0:=ie underlying128 rfl rfl rfl Th rfl
instance YL:Xd prog 128 1 1:=ie underlying128 rfl rfl rfl Ml rfl
instance ZL:Xd prog 136 0 0:=ie underlying136 rfl rfl rfl ho rfl
instance aM:Xd prog 136 2 2:=ie underlying136 rfl rfl rfl Ad rfl
instance ot:Xd prog 142 0 0:=ie underlying142 rfl rfl rfl Ad rfl
instance VB:Xd prog 142 1 1:=ie underlying142 rfl rfl rfl Ve rfl
instance uw:Xd prog 142 2 2:=ie underlying142 rfl rfl rfl Sd rfl
instance pH:Xd prog 142 3 3:=ie underlying142 rfl rfl rfl mj rfl
instance qH:Xd prog 144 0 0:=ie underlying144 rfl rfl rfl Ad rfl
instance oy:Xd prog 144 1 1:=ie underlying144 rfl rfl rfl Sd rfl
instance WB:Xd prog 144 2 2:=ie underlying144 rfl rfl rfl og rfl
instance rH:Xd prog 144 3 6:=ie underlying144 rfl rfl rfl Ll rfl
instance bM:Xd prog 144 4 7:=ie underlying144 rfl rfl rfl Ll rfl
instance cM:Xd prog 178 1 1:=ie underlying178 rfl rfl rfl Uq rfl
instance sH:Xd prog 191 0 0:=ie underlying191 rfl rfl rfl Sd rfl
instance XB:Xd prog 191 1 1:=ie underlying191 rfl rfl rfl Ve rfl
instance tH:Xd prog 191 2 2:=ie underlying191 rfl rfl rfl fi rfl
instance dM:Xd prog 196 0 0:=ie underlying196 rfl rfl rfl Ad rfl
instance eM:Xd prog 196 1 1:=ie underlying196 rfl rfl rfl Sd rfl
instance fM:Xd prog 196 2 2:=ie underlying196 rfl rfl rfl Ve rfl
instance gM:Xd prog 196 3 3:=ie underlying196 rfl rfl rfl Ad rfl
instance hM:Xd prog 213 0 0:=ie underlying213 rfl rfl rfl Ad rfl
instance iM:Xd prog 252 0 0:=ie underlying252 rfl rfl rfl Lu rfl
instance jM:Xd prog 252 1 1:=ie underlying252 rfl rfl rfl jl rfl
instance kM:Xd prog 252 2 2:=ie underlying252 rfl rfl rfl Lm rfl
instance MI:Xd prog 26 0 0:=ie underlying26 rfl rfl rfl uz rfl
instance FC:Xd prog 31 0 0:=ie underlying31 rfl rfl rfl Tq rfl
instance GC:Xd prog 31 1 1:=ie underlying31 rfl rfl rfl js rfl
instance NI:Xd prog 31 2 2:=ie underlying31 rfl rfl rfl Ad rfl
instance lM:Xd prog 343 0 0:=ie underlying343 rfl rfl rfl Wu rfl
instance mM:Xd prog 343 1 1:=ie underlying343 rfl rfl rfl tl rfl
instance HC:Xd prog 36 0 0:=ie underlying36 rfl rfl rfl Ad rfl
instance Hw:Xd prog 36 1 1:=ie underlying36 rfl rfl rfl Ad rfl
instance KM:Xd prog 36 2 2:=ie underlying36 rfl rfl rfl Ad rfl
instance IC:Xd prog 36 3 3:=ie underlying36 rfl rfl rfl hh rfl
instance LM:Xd prog 42 0 0:=ie underlying42 rfl rfl rfl Ad rfl
instance MM:Xd prog 42 1 1:=ie underlying42 rfl rfl rfl Sd rfl
instance Iw:Xd prog 46 0 0:=ie underlying46 rfl rfl rfl Ad rfl
instance Gy:Xd prog 46 1 1:=ie underlying46 rfl rfl rfl Sd rfl
instance NM:Xd prog 46 2 2:=ie underlying46 rfl rfl rfl wc rfl
instance OM:Xd prog 46 3 4:=ie underlying46 rfl rfl rfl wc rfl
instance OI:Xd prog 46 4 6:=ie underlying46 rfl rfl rfl Ad rfl
instance PI:Xd prog 46 5 7:=ie underlying46 rfl rfl rfl vz rfl
instance Hy:Xd prog 46 6 8:=ie underlying46 rfl rfl rfl Ll rfl
instance Iy:Xd prog 70 0 0:=ie underlying70 rfl rfl rfl Uq rfl
instance Jy:Xd prog 70 1 1:=ie underlying70 rfl rfl rfl Ht rfl
instance JC:Xd prog 70 2 2:=ie underlying70 rfl rfl rfl Wu rfl
instance Jw:Xd prog 70 3 3:=ie underlying70 rfl rfl rfl Ad rfl
instance Ky:Xd prog 76 0 0:=ie underlying76 rfl rfl rfl Ad rfl
instance Zn:Xd prog 76 1 1:=ie underlying76 rfl rfl rfl hh rfl
instance xt:Xd prog 85 0 0:=ie underlying85 rfl rfl rfl Bp rfl
instance KC:Xd prog 85 1 1:=ie underlying85 rfl rfl rfl Ml rfl
instance yt:Xd prog 85 2 2:=ie underlying85 rfl rfl rfl oo rfl
instance kp:Xd prog 85 3 3:=ie underlying85 rfl rfl rfl qf rfl
instance lp:Xd prog 85 4 4:=ie underlying85 rfl rfl rfl tn rfl
instance QI:Xd prog 91 0 0:=ie underlying91 rfl rfl rfl Sd rfl
instance PM:Xd prog 91 1 1:=ie underlying91 rfl rfl rfl wc rfl
theorem dK:vi prog 115 #[(0,1),(1,1),(2,1)]:=Xi underlying115 (fun _=>by kernel_rfl)
theorem fD:vi prog 117 #[(0,1),(1,1)]:=Xi underlying117 (fun _=>by kernel_rfl)
theorem gD:vi prog 124 #[(0,1),(1,1),(2,1),(3,1),(4,1),(5,1),(6,1),(7,1)]:=Xi underlying124 (fun _=>by kernel_rfl)
theorem cz:vi prog 128 #[(0,1),(1,1)]:=Xi underlying128 (fun _=>by kernel_rfl)
theorem eK:vi prog 136 #[(0,1),(1,1),(2,1)]:=Xi underlying136 (fun _=>by kernel_rfl)
theorem dz:vi prog 142 #[(0,1),(1,1),(2,1),(3,1)]:=Xi underlying142 (fun _=>by kernel_rfl)
theorem ez:vi prog 144 #[(0,1),(1,1),(2,4),(6,1),(7,1)]:=Xi underlying144 (fun _=>by kernel_rfl)
theorem fK:vi prog 178 #[(0,1),(1,1)]:=Xi underlying178 (fun _=>by kernel_rfl)
theorem hD:vi prog 191 #[(0,1),(1,1),(2,1)]:=Xi underlying191 (fun _=>by kernel_rfl)
theorem gK:vi prog 196 #[(0,1),(1,1),(2,1),(3,1)]:=Xi underlying196 (fun _=>by kernel_rfl)
theorem hK:vi prog 213 #[(0,1)]:=Xi underlying213 (fun _=>by kernel_rfl)
theorem iK:vi prog 252 #[(0,1),(1,1),(2,1)]:=Xi underlying252 (fun _=>by kernel_rfl)
theorem mm:vi prog 26 #[(0,1),(1,1)]:=Xi underlying26 (fun _=>by kernel_rfl)
theorem MK:vi prog 31 #[(0,1),(1,1),(2,1)]:=Xi underlying31 (fun _=>by kernel_rfl)
theorem Pu:vi prog 343 #[(0,1),(1,1)]:=Xi underlying343 (fun _=>by kernel_rfl)
theorem NK:vi prog 36 #[(0,1),(1,1),(2,1),(3,1)]:=Xi underlying36 (fun _=>by kernel_rfl)
theorem Yu:vi prog 42 #[(0,1),(1,1)]:=Xi underlying42 (fun _=>by kernel_rfl)
theorem tD:vi prog 46 #[(0,1),(1,1),(2,2),(4,2),(6,1),(7,1),(8,1)]:=Xi underlying46 (fun _=>by kernel_rfl)
theorem OK:vi prog 64 #[]:=Xi underlying64 (fun _=>by kernel_rfl)
theorem PK:vi prog 70 #[(0,1),(1,1),(2,1),(3,1)]:=Xi underlying70 (fun _=>by kernel_rfl)
theorem QK:vi prog 76 #[(0,1),(1,1)]:=Xi underlying76 (fun _=>by kernel_rfl)
theorem SK:vi prog 85 #[(0,1),(1,1),(2,1),(3,1),(4,4)]:=Xi underlying85 (fun _=>by kernel_rfl)
theorem iD:∀ w,(zeroValue 112).run prog w=.ok (.agg #[.slice none 0 0,.slice none 0 0,.slice none 0 0]) w:=Wr (by kernel_rfl)
theorem dx:∀ w,(zeroValue 3).run prog w=.ok (.int .i64 0) w:=Wr (by kernel_rfl)
theorem TK:∀ w,(zeroValue 42).run prog w=.ok (.agg #[.int .i64 0,S []]) w:=Wr (by kernel_rfl)
theorem It:∀ w,(zeroValue 73).run prog w=.ok (.pointer none) w:=Wr (by kernel_rfl)
theorem Yw:∀ w,(zeroValue 74).run prog w=.ok (.pointer none) w:=Wr (by kernel_rfl)
end Go.Proofs.YticaondbdmcpoaaGreatDoor
namespace Go.Proofs
open Go.Shelf
def Tryz.ZD:Go.Shelf.Ren:=⟨fun | 174=>72 | 247=>116 | 245=>117 | 287=>153 | 279=>154 | 280=>155 | 281=>156 | 282=>157 | 321=>187 | 322=>188 | 316=>189 | 171=>191 | 205=>190 | 243=>203 | 246=>208 | 283=>214 | 284=>215 | 285=>216 | 286=>217 | 129=>223 | 317=>222 | 318=>224 | 319=>225 | 320=>226 | 337=>227 | 338=>228 | n=>n,fun | 9=>9 | 3=>3 | 2=>2 | 75=>200 | 85=>201 | 4=>4 | 167=>294 | 5=>5 | 53=>295 | 175=>296 | 46=>298 | 168=>299 | 37=>321 | 0=>0 | 210=>323 | 21=>21 | 127=>336 | 145=>339 | 143=>337 | 171=>347 | 173=>350 | 212=>358 | 51=>352 | 20=>20 | 213=>359 | 232=>362 | 233=>363 | 80=>205 | n=>n,fun | 15=>0 | 16=>1 | 17=>3 | 18=>4 | 19=>5 | n=>n⟩
theorem Tryz.dG:Go.Proofs.LaysC.n174 Tryz.prog Tryz.ZD:={
 mixed:=by kernel_rfl
 f129:=Tryz.func223.trans (congrArg some (by kernel_rfl))
 f171:=Tryz.func191.trans (congrArg some (by kernel_rfl))
 f174:=Tryz.func72.trans (congrArg some (by kernel_rfl))
 f205:=Tryz.func190.trans (congrArg some (by kernel_rfl))
 f243:=Tryz.func203.trans (congrArg some (by kernel_rfl))
 f245:=Tryz.func117.trans (congrArg some (by kernel_rfl))
 f246:=Tryz.func208.trans (congrArg some (by kernel_rfl))
 f247:=Tryz.func116.trans (congrArg some (by kernel_rfl))
 f279:=Tryz.func154.trans (congrArg some (by kernel_rfl))
 f280:=Tryz.func155.trans (congrArg some (by kernel_rfl))
 f281:=Tryz.func156.trans (congrArg some (by kernel_rfl))
 f282:=Tryz.func157.trans (congrArg some (by kernel_rfl))
 f283:=Tryz.func214.trans (congrArg some (by kernel_rfl))
 f284:=Tryz.func215.trans (congrArg some (by kernel_rfl))
 f285:=Tryz.func216.trans (congrArg some (by kernel_rfl))
 f286:=Tryz.func217.trans (congrArg some (by kernel_rfl))
 f287:=Tryz.func153.trans (congrArg some (by kernel_rfl))
 f316:=Tryz.func189.trans (congrArg some (by kernel_rfl))
 f317:=Tryz.func222.trans (congrArg some (by kernel_rfl))
 f318:=Tryz.func224.trans (congrArg some (by kernel_rfl))
 f319:=Tryz.func225.trans (congrArg some (by kernel_rfl))
 f320:=Tryz.func226.trans (congrArg some (by kernel_rfl))
 f321:=Tryz.func187.trans (congrArg some (by kernel_rfl))
 f322:=Tryz.func188.trans (congrArg some (by kernel_rfl))
 f337:=Tryz.func227.trans (congrArg some (by kernel_rfl))
 f338:=Tryz.func228.trans (congrArg some (by kernel_rfl))
 t0:=Tryz.underlying0
 a0:=Tryz.isAgg0
 z0:=Tryz.sizeOf0
 v0:=Tryz.zeroValue0
 t2:=Tryz.underlying2
 a2:=Tryz.isAgg2
 z2:=Tryz.sizeOf2
 v2:=Tryz.zeroValue2
 t3:=Tryz.underlying3
 a3:=Tryz.isAgg3
 z3:=Tryz.sizeOf3
 v3:=Tryz.zeroValue3
 t4:=Tryz.underlying4
 a4:=Tryz.isAgg4
 z4:=Tryz.sizeOf4
 v4:=Tryz.zeroValue4
 t5:=Tryz.underlying5
 a5:=Tryz.isAgg5
 z5:=Tryz.sizeOf5
 v5:=Tryz.zeroValue5
 t9:=Tryz.underlying9
 a9:=Tryz.isAgg9
 z9:=Tryz.sizeOf9
 v9:=Tryz.zeroValue9
 t20:=Tryz.underlying20
 a20:=Tryz.isAgg20
 z20:=Tryz.sizeOf20
 v20:=Tryz.zeroValue20
 t21:=Tryz.underlying21
 a21:=Tryz.isAgg21
 z21:=Tryz.sizeOf21
 v21:=Tryz.zeroValue21
 t37:=Tryz.underlying321
 a37:=Tryz.isAgg321
 z37:=Tryz.sizeOf321
 v37:=Tryz.zeroValue321
 t46:=Tryz.underlying298
 a46:=Tryz.isAgg298
 z46:=Tryz.sizeOf298
 v46:=Tryz.zeroValue298
 t51:=Tryz.underlying352
 a51:=Tryz.isAgg352
 z51:=Tryz.sizeOf352
 v51:=Tryz.zeroValue352
 t53:=Tryz.underlying295
 a53:=Tryz.isAgg295
 z53:=Tryz.sizeOf295
 v53:=Tryz.zeroValue295
 t75:=Tryz.underlying200
 a75:=Tryz.isAgg200
 z75:=Tryz.sizeOf200
 v75:=Tryz.zeroValue200
 t85:=Tryz.underlying201
 a85:=Tryz.isAgg201
 z85:=Tryz.sizeOf201
 v85:=Tryz.zeroValue201
 t127:=Tryz.underlying336
 a127:=Tryz.isAgg336
 z127:=Tryz.sizeOf336
 v127:=Tryz.zeroValue336
 t143:=Tryz.underlying337
 a143:=Tryz.isAgg337
 z143:=Tryz.sizeOf337
 v143:=Tryz.zeroValue337
 t145:=Tryz.underlying339
 a145:=Tryz.isAgg339
 z145:=Tryz.sizeOf339
 v145:=Tryz.zeroValue339
 t167:=Tryz.underlying294
 a167:=Tryz.isAgg294
 z167:=Tryz.sizeOf294
 v167:=Tryz.zeroValue294
 t168:=Tryz.underlying299
 a168:=Tryz.isAgg299
 z168:=Tryz.sizeOf299
 v168:=Tryz.zeroValue299
 t171:=Tryz.underlying347
 a171:=Tryz.isAgg347
 z171:=Tryz.sizeOf347
 v171:=Tryz.zeroValue347
 t173:=Tryz.underlying350
 a173:=Tryz.isAgg350
 z173:=Tryz.sizeOf350
 v173:=Tryz.zeroValue350
 t175:=Tryz.underlying296
 a175:=Tryz.isAgg296
 z175:=Tryz.sizeOf296
 v175:=Tryz.zeroValue296
 t210:=Tryz.underlying323
 a210:=Tryz.isAgg323
 z210:=Tryz.sizeOf323
 v210:=Tryz.zeroValue323
 t212:=Tryz.underlying358
 a212:=Tryz.isAgg358
 z212:=Tryz.sizeOf358
 v212:=Tryz.zeroValue358
 t213:=Tryz.underlying359
 a213:=Tryz.isAgg359
 z213:=Tryz.sizeOf359
 t232:=Tryz.underlying362
 a232:=Tryz.isAgg362
 z232:=Tryz.sizeOf362
 v232:=Tryz.zeroValue362
 t233:=Tryz.underlying363
 a233:=Tryz.isAgg363
 z233:=Tryz.sizeOf363
 v233:=Tryz.zeroValue363
 g15:=by kernel_rfl
 g16:=by kernel_rfl
 g17:=by kernel_rfl
 g18:=by kernel_rfl
 g19:=by kernel_rfl
 t80:=Tryz.underlying205
 a80:=Tryz.isAgg205
 z80:=Tryz.sizeOf205
 v80:=Tryz.zeroValue205
 i0:=by kernel_rfl
 i2:=by kernel_rfl
 i3:=by kernel_rfl
 i4:=by kernel_rfl
 i5:=by kernel_rfl
 i9:=by kernel_rfl
 i20:=by kernel_rfl
 i21:=by kernel_rfl
 i37:=by kernel_rfl
 i46:=by kernel_rfl
 i51:=by kernel_rfl
 i53:=by kernel_rfl
 i75:=by kernel_rfl
 i80:=by kernel_rfl
 i85:=by kernel_rfl
 i127:=by kernel_rfl
 i143:=by kernel_rfl
 i145:=by kernel_rfl
 i167:=by kernel_rfl
 i168:=by kernel_rfl
 i171:=by kernel_rfl
 i173:=by kernel_rfl
 i175:=by kernel_rfl
 i210:=by kernel_rfl
 i212:=by kernel_rfl
 i232:=by kernel_rfl
 i233:=by kernel_rfl
 m15:=by kernel_rfl
 m16:=by kernel_rfl
 m17:=by kernel_rfl
 m18:=by kernel_rfl
 m19:=by kernel_rfl
 c0:=by kernel_rfl
 c2:=by kernel_rfl
 c3:=by kernel_rfl
 c4:=by kernel_rfl
 c5:=by kernel_rfl
 c9:=by kernel_rfl
 c20:=by kernel_rfl
 c21:=by kernel_rfl
 c37:=by kernel_rfl
 c46:=by kernel_rfl
 c51:=by kernel_rfl
 c53:=by kernel_rfl
 c75:=by kernel_rfl
 c80:=by kernel_rfl
 c85:=by kernel_rfl
 c127:=by kernel_rfl
 c143:=by kernel_rfl
 c145:=by kernel_rfl
 c167:=by kernel_rfl
 c168:=by kernel_rfl
 c171:=by kernel_rfl
 c173:=by kernel_rfl
 c175:=by kernel_rfl
 c210:=by kernel_rfl
 c212:=by kernel_rfl
 c213:=by kernel_rfl
 c232:=by kernel_rfl
 c233:=by kernel_rfl }
open Go.RowKit in
theorem Tryz.strconv_ParseInt_10_at64_ok (s:ByteArray) (a:s.size≤9223372036854775806) (v:Int) (h:Lib.parseIntB 64 s.data.toList=.ok v) (w:World) :
  Calls Tryz.prog 72 #[.string s,.int .i64 10,.int .i64 64] w fun e w'=>e=.returned (.tuple #[.int .i64 v,.nilIface])∧(w'=w∨∃ t,w'=Lib.bytesWorld w 5 t):=Any.strconv_ParseInt_10_at64_ok Tryz.dG s a v h w
def Tryz.oE:Go.Shelf.Ren:=⟨fun | 144=>159 | 143=>192 | 219=>204 | 217=>209 | 225=>210 | 224=>211 | 267=>212 | 266=>218 | 314=>219 | n=>n,fun | 9=>9 | 4=>4 | 3=>3 | 5=>5 | 46=>298 | 146=>353 | 51=>352 | n=>n,fun | 1=>2 | n=>n⟩
theorem Tryz.uH:Go.Proofs.Lays.n144 Tryz.prog Tryz.oE:={
 mixed:=by kernel_rfl
 f143:=Tryz.func192.trans (congrArg some (by kernel_rfl))
 f144:=Tryz.func159.trans (congrArg some (by kernel_rfl))
 f217:=Tryz.func209.trans (congrArg some (by kernel_rfl))
 f219:=Tryz.func204.trans (congrArg some (by kernel_rfl))
 f224:=Tryz.func211.trans (congrArg some (by kernel_rfl))
 f225:=Tryz.func210.trans (congrArg some (by kernel_rfl))
 f266:=Tryz.func218.trans (congrArg some (by kernel_rfl))
 f267:=Tryz.func212.trans (congrArg some (by kernel_rfl))
 f314:=Tryz.func219.trans (congrArg some (by kernel_rfl))
 t3:=Tryz.underlying3
 a3:=Tryz.isAgg3
 z3:=Tryz.sizeOf3
 v3:=Tryz.zeroValue3
 t4:=Tryz.underlying4
 a4:=Tryz.isAgg4
 z4:=Tryz.sizeOf4
 v4:=Tryz.zeroValue4
 t5:=Tryz.underlying5
 a5:=Tryz.isAgg5
 z5:=Tryz.sizeOf5
 v5:=Tryz.zeroValue5
 t9:=Tryz.underlying9
 a9:=Tryz.isAgg9
 z9:=Tryz.sizeOf9
 v9:=Tryz.zeroValue9
 t46:=Tryz.underlying298
 a46:=Tryz.isAgg298
 z46:=Tryz.sizeOf298
 v46:=Tryz.zeroValue298
 t51:=Tryz.underlying352
 a51:=Tryz.isAgg352
 z51:=Tryz.sizeOf352
 v51:=Tryz.zeroValue352
 t146:=Tryz.underlying353
 a146:=Tryz.isAgg353
 z146:=Tryz.sizeOf353
 v146:=Tryz.zeroValue353
 g1:=by kernel_rfl }
open Go.RowKit Go.Lib in
theorem Tryz.strings_Contains (s sub:ByteArray) (m:Int) (w:World) (a:s.size<4294967281) (hm:w.cell? ⟨2,0,none⟩=some (.int .i64 m)) :
  Calls Tryz.prog 159 #[.string s,.string sub] w fun e w'=>e=.returned (.bool (Lib.contains s.data.toList sub.data.toList))∧w'=w:=Any.strings_Contains Tryz.uH s sub m w a hm
def Tryz.pE:Go.Shelf.Ren:=⟨fun | 110=>35 | 109=>58 | n=>n,fun | 31=>110 | 9=>9 | 4=>4 | 3=>3 | 0=>0 | n=>n,fun | n=>n⟩
theorem Tryz.YB:Go.Proofs.Lays.n110 Tryz.prog Tryz.pE:={
 mixed:=by kernel_rfl
 f109:=Tryz.func58.trans (congrArg some (by kernel_rfl))
 f110:=Tryz.func35.trans (congrArg some (by kernel_rfl))
 t0:=Tryz.underlying0
 a0:=Tryz.isAgg0
 z0:=Tryz.sizeOf0
 v0:=Tryz.zeroValue0
 t3:=Tryz.underlying3
 a3:=Tryz.isAgg3
 z3:=Tryz.sizeOf3
 v3:=Tryz.zeroValue3
 t4:=Tryz.underlying4
 a4:=Tryz.isAgg4
 z4:=Tryz.sizeOf4
 v4:=Tryz.zeroValue4
 t9:=Tryz.underlying9
 a9:=Tryz.isAgg9
 z9:=Tryz.sizeOf9
 v9:=Tryz.zeroValue9
 t31:=Tryz.underlying110
 a31:=Tryz.isAgg110
 z31:=Tryz.sizeOf110
 v31:=Tryz.zeroValue110 }
open Go.Lib in
theorem Tryz.slices_Contains_string (b off n c:Nat) (a:List ByteArray) (x:ByteArray) (w:World) (d:n≤a.length) (f:n≤9223372036854775807) (g:∀ j,j<a.length→w.cell? ⟨b,off+j,none⟩=some (.string (a.getD j ByteArray.empty))) :
  Calls Tryz.prog 35 #[.slice (some ⟨b,off,none⟩) n c,.string x] w fun e w'=>e=.returned (.bool (Lib.containsS (a.take n) x))∧w'=w:=Any.slices_Contains_string Tryz.YB b off n c a x w d f g
open Go.Lib in
theorem Tryz.slices_Contains_string_empty (a:Option Addr) (c:Nat) (x:ByteArray) (w:World) :
  Calls Tryz.prog 35 #[.slice a 0 c,.string x] w fun e w'=>e=.returned (.bool false)∧w'=w:=Any.slices_Contains_string_empty Tryz.YB a c x w
end Go.Proofs
namespace Go.Proofs.YticaondbdmcpoaaGreatDoor
open Go.hc Go.Mc Go.Y Tryz
def ye:M:=fun w=>∃ m,w.cell? ⟨2,0,none⟩=some (.int .i64 m)
theorem RI {I:M}{da w:World}{rsF:List Qa}{l:List UInt8}{r:Int}(g:qz l=some r) (b:ja I da w rsF) :
  Ic prog 72 [S l,.int .i64 10,.int .i64 64] w (fun v w'=>v=.tuple ⟨[.int .i64 r,.nilIface]⟩∧ja I da w' rsF):=by
 unfold qz at g;split at g
 ·rename_i oa;cases a:Lib.parseIntB 64 l with
  | ok v =>
   rw [a] at g;obtain rfl:=Option.some.inj g;refine ⟨(strconv_ParseInt_10_at64_ok ⟨⟨l⟩⟩ oa v a w).mono fun e w' he=>?_⟩;obtain ⟨rfl,hw⟩:=he;refine ⟨rfl,?_⟩;rcases hw with rfl | ⟨t,rfl⟩
   ·exact b
   ·have h:=Lib.bytesWorld_below w 5 t;exact b.grow ⟨h.os,h.tape,h.output,h.size,fun k c _=>h.block k c⟩
  | _=>rw [a] at g; cases g
 ·cases g
theorem vH {I:M}{da w:World}{rsF:List Qa}{l sub:List UInt8}{b:Bool}(d:ha ye I) (g:Ow l sub=some b) (c:ja I da w rsF) :
  Ic prog 159 [S l,S sub] w (fun v w'=>v=.bool b∧ja I da w' rsF):=by
 unfold Ow at g;split at g
 ·rename_i oa;obtain rfl:=Option.some.inj g;obtain ⟨m,hm⟩:=d w c.a;refine ⟨(strings_Contains ⟨⟨l⟩⟩ ⟨⟨sub⟩⟩ m w oa hm).mono fun e w' he=>?_⟩;obtain ⟨rfl,rfl⟩:=he;exact ⟨rfl,c⟩
 ·cases g
end Go.Proofs.YticaondbdmcpoaaGreatDoor
namespace Go.Proofs.YticaondbdmcpoaaGreatDoor
open Go.hc Go.Mc Go.Y Go.RowKit Tryz
section
variable {μ I:M}{da w:World}{rsF rs:List Qa}
def Ly (w:World) (v:Value) (vs:List Value):Prop:=(vs=[]∧∃ a c,v=.slice a 0 c)∨∃ b o c,v=.slice (some ⟨b,o,none⟩) vs.length c∧vs.length≤9223372036854775807∧∀ j y,vs[j]?=some y→w.cell? ⟨b,o+j,none⟩=some y
theorem qB {α:Type}[mb α]{f:α→Value}(a:∀ (μ:M) (l:List Value) (x:α),mb.cs μ l x→l=[f x]):∀ {l:List α}{cells:List Value},Ua μ cells l→cells=l.map f
 | [],cells,h=>by rw [Ua] at h; simp [h]
 | x::l,cells,h=>by
  rw [Ua] at h;obtain ⟨cs,t,rfl,b,c⟩:=h;rw [a _ _ _ b,qB a c];rfl
theorem rF {α:Type}[mb α]{f:α→Value}(c:∀ (μ:M) (l:List Value) (x:α),mb.cs μ l x→l=[f x]){v:Value}{T:TypeId}{l:List α}{cells:List Value}(h:Row w v T 1 l.length cells) (d:Ua μ cells l):Ly w v (l.map f):=by
 have e:=qB c d;subst e;rcases h.2 with ⟨rfl,b⟩ | ⟨g,o,cap,cur,rfl,i,k,b,n,m⟩
 ·exact .inl ⟨by rw [List.length_eq_zero_iff.1 b];rfl,none,0,rfl⟩
 ·refine .inr ⟨g,o,cap,by simp,by simp;exact Nat.le_trans k (Nat.le_trans b (by decide)),fun j y a=>?_⟩;rw [cell_of_row w g (o+j) cur T (0,0) i];rw [← m,List.getElem?_take] at a;split at a
  ·rw [List.getElem?_drop] at a;simpa using a
  ·cases a
theorem rB {α:Type}[mb α]{f:α→Value}(g:∀ (μ:M) (l:List Value) (x:α),mb.cs μ l x→l=[f x]) (i:mb.sz α=1){a:Option Addr}{c:Nat}{l:List α}(h:Na μ a c l) (hw:μ w):Ly w (.slice a l.length c) (l.map f):=by
 rcases h.el with rfl | ⟨b,o,rfl,p,k⟩
 ·exact .inl ⟨rfl,a,c,rfl⟩
 ·refine .inr ⟨b,o,c,by simp,by simp;exact Na.len h,fun j y d=>?_⟩;simp only [List.getElem?_map,Option.map_eq_some_iff] at d;obtain ⟨x,m,rfl⟩:=d;obtain ⟨e,n⟩:=k j x m;rw [g _ _ _ n,i] at e;have:=e w hw 0 _ rfl;simpa using this
theorem xz (μ:M) (l:List Value) (x:List UInt8) (h:mb.cs μ l x):l=[S x]:=h
theorem sx {v:Value}{l:List (List UInt8)}{x:List UInt8}(h:Ly w v (l.map S)):Ic prog 35 [v,S x] w (fun v w'=>v=.bool (l.contains x)∧w'=w):=by
 rcases h with ⟨f,a,c,rfl⟩ | ⟨b,o,c,rfl,oa,g⟩
 ·obtain rfl:l=[]:=List.map_eq_nil_iff.1 f;exact ⟨(slices_Contains_string_empty a c ⟨⟨x⟩⟩ w).mono fun e w' he=>by
   obtain ⟨rfl,rfl⟩:=he;exact ⟨rfl,rfl⟩⟩
 ·refine ⟨(slices_Contains_string b o (l.map S).length c (l.map fun y=>⟨⟨y⟩⟩) ⟨⟨x⟩⟩ w (by simp) oa ?_).mono fun e w' he=>?_⟩
  ·intro j i;have d:j<l.length:=by simpa using i
   rw [g j (S l[j]) (by simp [d])];simp [List.getElem?_eq_getElem d,S]
  ·obtain ⟨rfl,rfl⟩:=he;refine ⟨?_,rfl⟩;congr 1;rw [List.take_of_length_le (by simp),Bool.eq_iff_iff,Lib.containsS_iff,List.contains_iff_mem];constructor
   ·intro hm;obtain ⟨y,m,e⟩:=List.mem_map.1 hm;have k:y=x:=congrArg (fun b:ByteArray=>b.data.toList) e;rwa [← k]
   ·exact fun hm=>List.mem_map.2 ⟨x,hm,rfl⟩
end
end Go.Proofs.YticaondbdmcpoaaGreatDoor
