/- The shelf: texts of Fl. -/
import Derived.Test.YthdpoglpdpfnbaaGreatDoorCXt
import Derived.Test.YthdpoglpdpfnbaaGreatDoorProg
import Derived.KernelRfl
import Derived.Shelf.Strconv.Itoa0
import Derived.Shelf.Strconv.Itoa1
import Derived.Shelf.LaysM
import Derived.Shelf.Strconv.Itoa2
import Derived.Shelf.Strconv.Itoa3
import Derived.Shelf.Strconv.ParseIntEmpty
import Derived.Shelf.Strconv.Clone
import Derived.Shelf.Strconv.SyntaxError
import Derived.Shelf.LaysC
import Derived.Shelf.Strconv.ToError
import Derived.Shelf.Strconv.Lower
import Derived.Shelf.Strconv.ParseUint10
import Derived.Shelf.Strconv.ParseUint10Empty
import Derived.Shelf.Strconv.ParseUint10Any
import Derived.Shelf.Strconv.ParseInt10
import Derived.Shelf.Strconv.RangeError
import Derived.Shelf.Strconv.ToErrorRange
import Derived.Shelf.Strconv.ParseUintEmpty
import Derived.Shelf.Strconv.ParseUint10b64
import Derived.Shelf.Strconv.ParseUint10b32
import Derived.Shelf.Strconv.ParseUint10b16
import Derived.Shelf.Strconv.ParseUint10b8
import Derived.Shelf.Strconv.ParseUint10At
import Derived.Shelf.Strconv.ParseInt10At64
import Derived.Shelf.Strconv.ParseInt10At32
import Derived.Shelf.Strconv.ParseInt10At16
import Derived.Shelf.Strconv.ParseInt10At8
import Derived.Shelf.Strconv.ParseInt10All
import Derived.Shelf.Strconv.ParseIntPublic10
import Derived.Shelf.Strings.Search1
import Derived.Shelf.Strings.Search2
import Derived.Shelf.Strings.Search3
import Derived.Shelf.Strings.Shaped
import Derived.Shelf.Slices.Turned
import Derived.Ground.Names2Prog
import Derived.Shelf.Slices.Clone
import Derived.Ground.SlgnProg
import Derived.Shelf.SlicesE.Clone
import Derived.Test.YthdpoglpdpfnbaaGreatDoorCMd
import Derived.Test.YthdpoglpdpfnbaaGreatDoorCXu
import Derived.Lib.SlicesS
set_option linter.unusedSimpArgs false
set_option linter.unusedVariables false
set_option linter.unusedSectionVars false
namespace Go.Proofs.YthdpoglpdpfnbaaGreatDoor
open Go.vc Go.hd Tryz
instance eC : Lb prog 7 := Yb func7
instance fM : Lb prog 8 := Yb func8
instance gM : Lb prog 9 := Yb func9
instance aH : Lb prog 10 := Yb func10
instance BK : Lb prog 11 := Yb func11
instance CK : Lb prog 12 := Yb func12
instance DK : Lb prog 13 := Yb func13
instance EK : Lb prog 14 := Yb func14
instance FK : Lb prog 15 := Yb func15
instance GK : Lb prog 16 := Yb func16
instance HK : Lb prog 17 := Yb func17
instance IK : Lb prog 18 := Yb func18
instance bH : Lb prog 19 := Yb func19
instance cH : Lb prog 20 := Yb func20
instance JK : Lb prog 21 := Yb func21
instance dH : Lb prog 22 := Yb func22
instance eH : Lb prog 23 := Yb func23
instance KK : Lb prog 24 := Yb func24
instance fH : Lb prog 25 := Yb func25
instance LK : Lb prog 27 := Yb func27
instance gH : Lb prog 28 := Yb func28
instance MK : Lb prog 29 := Yb func29
instance NK : Lb prog 30 := Yb func30
instance Fo : Lb prog 31 := Yb func31
instance OK : Lb prog 32 := Yb func32
instance PK : Lb prog 33 := Yb func33
instance QK : Lb prog 34 := Yb func34
instance SK : Lb prog 35 := Yb func35
instance MB : Lb prog 36 := Yb func36
instance hH : Lb prog 37 := Yb func37
instance NB : Lb prog 38 := Yb func38
instance OB : Lb prog 39 := Yb func39
instance jy : Lb prog 40 := Yb func40
instance TK : Lb prog 42 := Yb func42
instance UK : Lb prog 43 := Yb func43
instance VK : Lb prog 44 := Yb func44
instance WK : Lb prog 45 := Yb func45
instance XK : Lb prog 46 := Yb func46
instance YK : Lb prog 47 := Yb func47
instance ZK : Lb prog 48 := Yb func48
instance aL : Lb prog 49 := Yb func49
instance iH : Lb prog 50 := Yb func50
instance Yu : Lb prog 51 := Yb func51
instance jH : Lb prog 52 := Yb func52
instance PB : Lb prog 53 := Yb func53
instance kH : Lb prog 54 := Yb func54
instance bL : Lb prog 55 := Yb func55
instance cL : Lb prog 56 := Yb func56
instance dL : Lb prog 57 := Yb func57
instance eL : Lb prog 58 := Yb func58
instance fL : Lb prog 59 := Yb func59
instance gL : Lb prog 60 := Yb func60
instance hL : Lb prog 61 := Yb func61
instance iL : Lb prog 62 := Yb func62
instance jL : Lb prog 63 := Yb func63
instance kL : Lb prog 64 := Yb func64
instance lH : Lb prog 65 := Yb func65
instance lL : Lb prog 66 := Yb func66
instance QB : Lb prog 67 := Yb func67
instance Zu : Lb prog 68 := Yb func68
instance mL : Lb prog 69 := Yb func69
instance nL : Lb prog 70 := Yb func70
instance oL : Lb prog 71 := Yb func71
instance mH : Lb prog 72 := Yb func72
instance pL : Lb prog 73 := Yb func73
instance RB : Lb prog 74 := Yb func74
instance nH : Lb prog 75 := Yb func75
instance oH : Lb prog 76 := Yb func76
instance pH : Lb prog 77 := Yb func77
instance qH : Lb prog 78 := Yb func78
instance qL : Lb prog 79 := Yb func79
instance rL : Lb prog 80 := Yb func80
instance SB : Lb prog 81 := Yb func81
instance rH : Lb prog 82 := Yb func82
instance sH : Lb prog 83 := Yb func83
instance sL : Lb prog 84 := Yb func84
instance tL : Lb prog 85 := Yb func85
instance tH : Lb prog 86 := Yb func86
instance uL : Lb prog 87 := Yb func87
instance vL : Lb prog 88 := Yb func88
instance uH : Lb prog 89 := Yb func89
instance wL : Lb prog 92 := Yb func92
instance xL : Lb prog 93 := Yb func93
instance sr : Lb prog 94 := Yb func94
instance yL : Lb prog 95 := Yb func95
instance zL : Lb prog 96 := Yb func96
instance AL : Lb prog 97 := Yb func97
instance BL : Lb prog 98 := Yb func98
instance CL : Lb prog 99 := Yb func99
instance dJ : Lb prog 100 := Yb func100
instance NF : Lb prog 101 := Yb func101
instance Qx : Lb prog 102 := Yb func102
instance eJ : Lb prog 103 := Yb func103
instance OF : Lb prog 104 := Yb func104
instance PF : Lb prog 105 := Yb func105
instance QF : Lb prog 106 := Yb func106
instance RF : Lb prog 108 := Yb func108
instance Gu : Lb prog 109 := Yb func109
instance Hu : Lb prog 110 := Yb func110
instance nB : Lb prog 111 := Yb func111
instance oB : Lb prog 112 := Yb func112
instance fJ : Lb prog 113 := Yb func113
instance gJ : Lb prog 114 := Yb func114
instance hJ : Lb prog 115 := Yb func115
instance SF : Lb prog 116 := Yb func116
instance iJ : Lb prog 117 := Yb func117
instance pB : Lb prog 118 := Yb func118
instance jJ : Lb prog 119 := Yb func119
instance kJ : Lb prog 125 := Yb func125
instance TF : Lb prog 126 := Yb func126
instance UF : Lb prog 127 := Yb func127
instance Wp : Lb prog 128 := Yb func128
instance qB : Lb prog 129 := Yb func129
instance lJ : Lb prog 130 := Yb func130
instance VF : Lb prog 131 := Yb func131
instance XF : Lb prog 132 := Yb func132
instance mJ : Lb prog 133 := Yb func133
instance nJ : Lb prog 135 := Yb func135
instance YF : Lb prog 136 := Yb func136
instance oJ : Lb prog 137 := Yb func137
instance pJ : Lb prog 138 := Yb func138
instance qJ : Lb prog 139 := Yb func139
instance rJ : Lb prog 140 := Yb func140
instance ZF : Lb prog 148 := Yb func148
instance sJ : Lb prog 149 := Yb func149
instance tJ : Lb prog 150 := Yb func150
instance Iu : Lb prog 151 := Yb func151
instance Vf : Lb prog 152 := Yb func152
instance uJ : Lb prog 153 := Yb func153
instance vJ : Lb prog 154 := Yb func154
instance wJ : Lb prog 157 := Yb func157
instance xJ : Lb prog 158 := Yb func158
instance yJ : Lb prog 159 := Yb func159
instance rB : Lb prog 160 := Yb func160
instance aG : Lb prog 161 := Yb func161
instance bG : Lb prog 162 := Yb func162
instance zJ : Lb prog 168 := Yb func168
instance AJ : Lb prog 169 := Yb func169
instance BJ : Lb prog 170 := Yb func170
instance kg : Lb prog 171 := Yb func171
instance cG : Lb prog 172 := Yb func172
instance CJ : Lb prog 179 := Yb func179
instance DJ : Lb prog 180 := Yb func180
instance lr : Lb prog 181 := Yb func181
instance EJ : Lb prog 183 := Yb func183
instance FJ : Lb prog 184 := Yb func184
instance dG : Lb prog 207 := Yb func207
instance eG : Lb prog 210 := Yb func210
instance Mg : Mc prog 2 false [.int .i64 0] 1 8 := oe (z := .int .i64 0) underlying2
instance gb : Mc prog 3 false [.int .i64 0] 1 8 := oe (z := .int .i64 0) underlying3
instance Wj : Mc prog 4 false [.bool false] 1 1 := oe (z := .bool false) underlying4
instance Rd : Mc prog 9 false [S []] 1 16 := oe (z := S []) underlying9
instance Ai : Mc prog 22 false [.slice none 0 0] 1 24 := oe (z := .slice none 0 0) underlying22
instance Lr : Mc prog 26 false [.slice none 0 0] 1 24 := oe (z := .slice none 0 0) underlying26
instance Bi : Mc prog 27 false [.slice none 0 0] 1 24 := oe (z := .slice none 0 0) underlying27
instance Mm : Mc prog 29 true [.int .i64 0, .int .i64 0, .int .i64 0, .slice none 0 0, .slice none 0 0, .slice none 0 0, .int .i64 0] 7 104 := oe (z := .agg #[.int .i64 0, .int .i64 0, .int .i64 0, .slice none 0 0, .slice none 0 0, .slice none 0 0, .int .i64 0]) underlying29
instance Mr : Mc prog 30 false [.int .i64 0] 1 8 := oe (z := .int .i64 0) underlying30
instance Qo : Mc prog 34 false [.slice none 0 0] 1 24 := oe (z := .slice none 0 0) underlying34
instance vk : Mc prog 35 false [.slice none 0 0] 1 24 := oe (z := .slice none 0 0) underlying35
instance wk : Mc prog 37 true [.slice none 0 0, .slice none 0 0] 2 48 := oe (z := .agg #[.slice none 0 0, .slice none 0 0]) underlying37
instance Qn : Mc prog 43 false [.slice none 0 0] 1 24 := oe (z := .slice none 0 0) underlying43
instance ng : Mc prog 45 true [.int .i64 0, .int .i64 0] 2 16 := oe (z := .agg #[.int .i64 0, .int .i64 0]) underlying45
instance Ri : Mc prog 51 true [.int .i64 0, .int .i64 0, .int .i64 0] 3 24 := oe (z := .agg #[.int .i64 0, .int .i64 0, .int .i64 0]) underlying51
instance Sj : Mc prog 54 false [.pointer none] 1 8 := oe (z := .pointer none) underlying54
instance Rn : Mc prog 56 true [.int .i64 0, .int .i64 0] 2 16 := oe (z := .agg #[.int .i64 0, .int .i64 0]) underlying56
instance pC : Mc prog 59 true [.slice none 0 0, .slice none 0 0, .slice none 0 0] 3 72 := oe (z := .agg #[.slice none 0 0, .slice none 0 0, .slice none 0 0]) underlying59
instance fz : Mc prog 64 false [.nilIface] 1 16 := oe (z := .nilIface) underlying64
instance sl : Mc prog 65 false [.slice none 0 0] 1 24 := oe (z := .slice none 0 0) underlying65
instance ri : Mc prog 66 false [.pointer none] 1 8 := oe (z := .pointer none) underlying66
instance EI : Mc prog 67 false [.nilFunc] 1 8 := oe (z := .nilFunc) underlying67
instance FI : Mc prog 69 true [.pointer none, .nilIface, .slice none 0 0, .pointer none, .int .i64 0, .int .i64 0, .int .i64 0, .slice none 0 0, .nilFunc] 9 112 := oe (z := .agg #[.pointer none, .nilIface, .slice none 0 0, .pointer none, .int .i64 0, .int .i64 0, .int .i64 0, .slice none 0 0, .nilFunc]) underlying69
instance gz : Mc prog 70 false [.slice none 0 0] 1 24 := oe (z := .slice none 0 0) underlying70
instance Vg : Mc prog 74 true [S [], S []] 2 32 := oe (z := .agg #[S [], S []]) underlying74
instance Wl : Mc prog 76 false [.slice none 0 0] 1 24 := oe (z := .slice none 0 0) underlying76
instance hM : Mc prog 81 false [.pointer none] 1 8 := oe (z := .pointer none) underlying81
instance GI : Mc prog 83 true [.slice none 0 0, .int .i64 0, .int .i64 0] 3 40 := oe (z := .agg #[.slice none 0 0, .int .i64 0, .int .i64 0]) underlying83
instance Db : Mc prog 87 true [.int .i64 0, S []] 2 24 := oe (z := .agg #[.int .i64 0, S []]) underlying87
instance Nr : Mc prog 88 false [.slice none 0 0] 1 24 := oe (z := .slice none 0 0) underlying88
instance hz : Mc prog 89 false [.slice none 0 0] 1 24 := oe (z := .slice none 0 0) underlying89
instance vg : Mc prog 91 true [.int .i64 0, S [], .int .i64 0, S [], .int .i64 0, S [], .int .i64 0, .slice none 0 0, .slice none 0 0] 9 128 := oe (z := .agg #[.int .i64 0, S [], .int .i64 0, S [], .int .i64 0, S [], .int .i64 0, .slice none 0 0, .slice none 0 0]) underlying91
instance Xl : Mc prog 94 false [.pointer none] 1 8 := oe (z := .pointer none) underlying94
instance bj : Mc prog 95 false [.map none] 1 8 := oe (z := .map none) underlying95
instance Sn : Mc prog 96 false [.map none] 1 8 := oe (z := .map none) underlying96
instance HI : Mc prog 98 true [.map none, .map none, .map none] 3 24 := oe (z := .agg #[.map none, .map none, .map none]) underlying98
instance Ci : Mc prog 99 false [.pointer none] 1 8 := oe (z := .pointer none) underlying99
instance uk : Mc prog 101 false [.slice none 0 0] 1 24 := oe (z := .slice none 0 0) underlying101
instance Mh : Mc prog 103 true [.int .i64 0, .int .i64 0, .slice none 0 0, .int .i64 0, .int .i64 0, .slice none 0 0] 6 80 := oe (z := .agg #[.int .i64 0, .int .i64 0, .slice none 0 0, .int .i64 0, .int .i64 0, .slice none 0 0]) underlying103
instance fv : Mc prog 105 false [.pointer none] 1 8 := oe (z := .pointer none) underlying105
instance dI : Mc prog 107 true [.pointer none] 1 8 := oe (z := .agg #[.pointer none]) underlying107
instance Li : Mc prog 111 false [.slice none 0 0] 1 24 := oe (z := .slice none 0 0) underlying111
instance Lo : Mc prog 112 false [.pointer none] 1 8 := oe (z := .pointer none) underlying112
instance eI : Mc prog 114 true [.int .i64 0, .pointer none, .slice none 0 0, .pointer none] 4 48 := oe (z := .agg #[.int .i64 0, .pointer none, .slice none 0 0, .pointer none]) underlying114
instance oj : Mc prog 117 true [.int .i64 0, .int .i64 0, .int .i64 0] 3 24 := oe (z := .agg #[.int .i64 0, .int .i64 0, .int .i64 0]) underlying117
instance ei : Mc prog 120 true [.int .i64 0, .int .i64 0, .int .i64 0] 3 24 := oe (z := .agg #[.int .i64 0, .int .i64 0, .int .i64 0]) underlying120
instance Bj : Mc prog 133 true [.int .i64 0, S [], .int .i64 0, .int .i64 0] 4 40 := oe (z := .agg #[.int .i64 0, S [], .int .i64 0, .int .i64 0]) underlying133
instance fI : Mc prog 149 true [.int .i64 0] 1 8 := oe (z := .agg #[.int .i64 0]) underlying149
instance My : Mc prog 150 false [.nilFunc] 1 8 := oe (z := .nilFunc) underlying150
instance Mo : Mc prog 155 false [.slice none 0 0] 1 24 := oe (z := .slice none 0 0) underlying155
instance gI : Mc prog 157 true [.pointer none, .int .i64 0, .int .i64 0, .slice none 0 0, .int .i64 0, .int .i64 0, .slice none 0 0, .slice none 0 0] 8 112 := oe (z := .agg #[.pointer none, .int .i64 0, .int .i64 0, .slice none 0 0, .int .i64 0, .int .i64 0, .slice none 0 0, .slice none 0 0]) underlying157
instance pj : Mc prog 159 true [S [], .int .i64 0, S []] 3 40 := oe (z := .agg #[S [], .int .i64 0, S []]) underlying159
instance Ny : Mc prog 164 false [.pointer none] 1 8 := oe (z := .pointer none) underlying164
instance Oy : Mc prog 168 false [.map none] 1 8 := oe (z := .map none) underlying168
instance Gm : Mc prog 169 false [.slice none 0 0] 1 24 := oe (z := .slice none 0 0) underlying169
instance Cj : Mc prog 171 true [.slice none 0 0, .slice none 0 0] 2 48 := oe (z := .agg #[.slice none 0 0, .slice none 0 0]) underlying171
instance hI : Mc prog 173 true [.pointer none, .pointer none, .map none, .slice none 0 0, .slice none 0 0, .slice none 0 0, .int .i64 0] 7 104 := oe (z := .agg #[.pointer none, .pointer none, .map none, .slice none 0 0, .slice none 0 0, .slice none 0 0, .int .i64 0]) underlying173
instance iI : Mc prog 181 true [.slice none 0 0, .int .i64 0, .int .i64 0, .int .i64 0] 4 48 := oe (z := .agg #[.slice none 0 0, .int .i64 0, .int .i64 0, .int .i64 0]) underlying181
instance Mi : Mc prog 188 false [.slice none 0 0] 1 24 := oe (z := .slice none 0 0) underlying188
instance Kg : Mc prog 191 false [.slice none 0 0] 1 24 := oe (z := .slice none 0 0) underlying191
instance ad : Mc prog 193 true [.int .i64 0, .int .i64 0, S [], .slice none 0 0] 4 56 := oe (z := .agg #[.int .i64 0, .int .i64 0, S [], .slice none 0 0]) underlying193
instance zi : Mc prog 195 true [.int .i64 0, S [], .int .i64 0, .int .i64 0, S [], .slice none 0 0, .slice none 0 0, .slice none 0 0] 8 128 := oe (z := .agg #[.int .i64 0, S [], .int .i64 0, .int .i64 0, S [], .slice none 0 0, .slice none 0 0, .slice none 0 0]) underlying195
instance gv : Mc prog 200 false [.pointer none] 1 8 := oe (z := .pointer none) underlying200
instance Cr : Mc prog 205 true [.slice none 0 0, .slice none 0 0, .slice none 0 0] 3 72 := oe (z := .agg #[.slice none 0 0, .slice none 0 0, .slice none 0 0]) underlying205
instance Dr : Mc prog 208 true [S [], S [], S []] 3 48 := oe (z := .agg #[S [], S [], S []]) underlying208
instance jI : Mc prog 209 false [.pointer none] 1 8 := oe (z := .pointer none) underlying209
instance Hm : Mc prog 210 true [.slice none 0 0, .pointer none] 2 32 := oe (z := .agg #[.slice none 0 0, .pointer none]) underlying210
instance kI : Mc prog 237 true [.slice none 0 0, .map none] 2 32 := oe (z := .agg #[.slice none 0 0, .map none]) underlying237
instance jl : Mc prog 257 false [.pointer none] 1 8 := oe (z := .pointer none) underlying257
instance fj : Mc prog 258 false [.map none] 1 8 := oe (z := .map none) underlying258
instance hk : Mc prog 259 false [.slice none 0 0] 1 24 := oe (z := .slice none 0 0) underlying259
instance lI : Mc prog 261 true [.pointer none, .pointer none, .slice none 0 0] 3 40 := oe (z := .agg #[.pointer none, .pointer none, .slice none 0 0]) underlying261
instance Ln : Mc prog 274 true [.map none, .bool false] 2 16 := oe (z := .agg #[.map none, .bool false]) underlying274
theorem II : prog.eqGuardType prog.depth 87 = false := by kernel_rfl
theorem JI : prog.stoodInHeld 87 = false := by kernel_rfl
instance fG : kd prog 103 0 0 := nd underlying103 rfl rfl rfl gb rfl
instance Ju : kd prog 103 1 1 := nd underlying103 rfl rfl rfl gb rfl
instance sB : kd prog 103 2 2 := nd underlying103 rfl rfl rfl Bi rfl
instance GJ : kd prog 103 3 3 := nd underlying103 rfl rfl rfl gb rfl
instance HJ : kd prog 103 4 4 := nd underlying103 rfl rfl rfl gb rfl
instance tB : kd prog 103 5 5 := nd underlying103 rfl rfl rfl uk rfl
instance gG : kd prog 107 0 0 := nd underlying107 rfl rfl rfl Sj rfl
instance hG : kd prog 114 0 0 := nd underlying114 rfl rfl rfl gb rfl
instance IJ : kd prog 114 1 1 := nd underlying114 rfl rfl rfl ri rfl
instance uB : kd prog 114 2 2 := nd underlying114 rfl rfl rfl Li rfl
instance JJ : kd prog 114 3 3 := nd underlying114 rfl rfl rfl Lo rfl
instance iG : kd prog 117 0 0 := nd underlying117 rfl rfl rfl gb rfl
instance Rx : kd prog 117 1 1 := nd underlying117 rfl rfl rfl gb rfl
instance KJ : kd prog 117 2 2 := nd underlying117 rfl rfl rfl gb rfl
instance jG : kd prog 120 0 0 := nd underlying120 rfl rfl rfl gb rfl
instance Ku : kd prog 120 1 1 := nd underlying120 rfl rfl rfl gb rfl
instance LJ : kd prog 120 2 2 := nd underlying120 rfl rfl rfl Mg rfl
instance MJ : kd prog 133 0 0 := nd underlying133 rfl rfl rfl gb rfl
instance NJ : kd prog 133 1 1 := nd underlying133 rfl rfl rfl Rd rfl
instance OJ : kd prog 133 2 2 := nd underlying133 rfl rfl rfl Mg rfl
instance PJ : kd prog 133 3 3 := nd underlying133 rfl rfl rfl gb rfl
instance QJ : kd prog 149 0 0 := nd underlying149 rfl rfl rfl gb rfl
instance RJ : kd prog 157 0 0 := nd underlying157 rfl rfl rfl Xl rfl
instance SJ : kd prog 157 1 1 := nd underlying157 rfl rfl rfl Mh rfl
instance TJ : kd prog 157 2 7 := nd underlying157 rfl rfl rfl Mo rfl
instance UJ : kd prog 159 0 0 := nd underlying159 rfl rfl rfl Rd rfl
instance VJ : kd prog 159 1 1 := nd underlying159 rfl rfl rfl Db rfl
instance WJ : kd prog 171 0 0 := nd underlying171 rfl rfl rfl Bi rfl
instance XJ : kd prog 171 1 1 := nd underlying171 rfl rfl rfl Gm rfl
instance YJ : kd prog 173 0 0 := nd underlying173 rfl rfl rfl fv rfl
instance ZJ : kd prog 173 1 1 := nd underlying173 rfl rfl rfl Ny rfl
instance aK : kd prog 173 2 2 := nd underlying173 rfl rfl rfl Oy rfl
instance bK : kd prog 173 3 3 := nd underlying173 rfl rfl rfl Bi rfl
instance cK : kd prog 173 4 4 := nd underlying173 rfl rfl rfl Cj rfl
instance dK : kd prog 173 5 6 := nd underlying173 rfl rfl rfl Mr rfl
instance kG : kd prog 181 0 0 := nd underlying181 rfl rfl rfl Ai rfl
instance eK : kd prog 181 1 1 := nd underlying181 rfl rfl rfl gb rfl
instance lG : kd prog 181 2 2 := nd underlying181 rfl rfl rfl gb rfl
instance fK : kd prog 181 3 3 := nd underlying181 rfl rfl rfl gb rfl
instance gK : kd prog 193 0 0 := nd underlying193 rfl rfl rfl gb rfl
instance hK : kd prog 193 1 1 := nd underlying193 rfl rfl rfl Mg rfl
instance iK : kd prog 193 2 2 := nd underlying193 rfl rfl rfl Rd rfl
instance jK : kd prog 193 3 3 := nd underlying193 rfl rfl rfl Kg rfl
instance kK : kd prog 195 0 0 := nd underlying195 rfl rfl rfl gb rfl
instance lK : kd prog 195 1 1 := nd underlying195 rfl rfl rfl Rd rfl
instance mK : kd prog 195 2 2 := nd underlying195 rfl rfl rfl ad rfl
instance nK : kd prog 195 3 6 := nd underlying195 rfl rfl rfl hz rfl
instance oK : kd prog 205 0 0 := nd underlying205 rfl rfl rfl Mi rfl
instance pK : kd prog 205 1 1 := nd underlying205 rfl rfl rfl Mi rfl
instance qK : kd prog 205 2 2 := nd underlying205 rfl rfl rfl Mi rfl
instance rK : kd prog 208 1 1 := nd underlying208 rfl rfl rfl Rd rfl
instance sK : kd prog 208 2 2 := nd underlying208 rfl rfl rfl Rd rfl
instance tK : kd prog 210 0 0 := nd underlying210 rfl rfl rfl Mi rfl
instance uK : kd prog 210 1 1 := nd underlying210 rfl rfl rfl jI rfl
instance vK : kd prog 237 1 1 := nd underlying237 rfl rfl rfl Sn rfl
instance wK : kd prog 261 0 0 := nd underlying261 rfl rfl rfl gv rfl
instance xK : kd prog 261 1 1 := nd underlying261 rfl rfl rfl Ci rfl
instance yK : kd prog 261 2 2 := nd underlying261 rfl rfl rfl hk rfl
instance zK : kd prog 274 0 0 := nd underlying274 rfl rfl rfl bj rfl
instance AK : kd prog 274 1 1 := nd underlying274 rfl rfl rfl Wj rfl
instance DL : kd prog 29 0 0 := nd underlying29 rfl rfl rfl gb rfl
instance EL : kd prog 29 3 3 := nd underlying29 rfl rfl rfl Ai rfl
instance vH : kd prog 37 0 0 := nd underlying37 rfl rfl rfl Qo rfl
instance wH : kd prog 37 1 1 := nd underlying37 rfl rfl rfl vk rfl
instance FL : kd prog 45 0 0 := nd underlying45 rfl rfl rfl Mr rfl
instance GL : kd prog 51 0 0 := nd underlying51 rfl rfl rfl Mr rfl
instance HL : kd prog 56 0 0 := nd underlying56 rfl rfl rfl gb rfl
instance IL : kd prog 56 1 1 := nd underlying56 rfl rfl rfl gb rfl
instance JL : kd prog 59 0 0 := nd underlying59 rfl rfl rfl Lr rfl
instance KL : kd prog 59 1 1 := nd underlying59 rfl rfl rfl Bi rfl
instance LL : kd prog 59 2 2 := nd underlying59 rfl rfl rfl Lr rfl
instance xH : kd prog 69 0 0 := nd underlying69 rfl rfl rfl Sj rfl
instance yH : kd prog 69 1 1 := nd underlying69 rfl rfl rfl fz rfl
instance zH : kd prog 69 2 2 := nd underlying69 rfl rfl rfl sl rfl
instance tr : kd prog 69 3 3 := nd underlying69 rfl rfl rfl ri rfl
instance AH : kd prog 69 4 4 := nd underlying69 rfl rfl rfl gb rfl
instance ML : kd prog 69 5 5 := nd underlying69 rfl rfl rfl gb rfl
instance NL : kd prog 69 6 6 := nd underlying69 rfl rfl rfl gb rfl
instance OL : kd prog 69 7 7 := nd underlying69 rfl rfl rfl Ai rfl
instance PL : kd prog 69 8 8 := nd underlying69 rfl rfl rfl EI rfl
instance QL : kd prog 74 0 0 := nd underlying74 rfl rfl rfl Rd rfl
instance RL : kd prog 74 1 1 := nd underlying74 rfl rfl rfl Rd rfl
instance SL : kd prog 83 0 0 := nd underlying83 rfl rfl rfl Wl rfl
instance TL : kd prog 83 2 2 := nd underlying83 rfl rfl rfl gb rfl
instance UL : kd prog 87 0 0 := nd underlying87 rfl rfl rfl gb rfl
instance VL : kd prog 87 1 1 := nd underlying87 rfl rfl rfl Rd rfl
instance BH : kd prog 91 0 0 := nd underlying91 rfl rfl rfl gb rfl
instance WL : kd prog 91 1 1 := nd underlying91 rfl rfl rfl Rd rfl
instance XL : kd prog 91 2 2 := nd underlying91 rfl rfl rfl Db rfl
instance YL : kd prog 91 3 4 := nd underlying91 rfl rfl rfl Db rfl
instance ZL : kd prog 91 4 6 := nd underlying91 rfl rfl rfl gb rfl
instance aM : kd prog 91 5 7 := nd underlying91 rfl rfl rfl Nr rfl
instance bM : kd prog 91 6 8 := nd underlying91 rfl rfl rfl hz rfl
instance cM : kd prog 98 0 0 := nd underlying98 rfl rfl rfl bj rfl
instance dM : kd prog 98 1 1 := nd underlying98 rfl rfl rfl bj rfl
instance eM : kd prog 98 2 2 := nd underlying98 rfl rfl rfl Sn rfl
theorem mI : fh prog 103 #[(0, 1), (1, 1), (2, 1), (3, 1), (4, 1), (5, 1)]:= uh underlying103 (fun _ => by kernel_rfl)
theorem nI : fh prog 107 #[(0, 1)]:= uh underlying107 (fun _ => by kernel_rfl)
theorem oI : fh prog 114 #[(0, 1), (1, 1), (2, 1), (3, 1)]:= uh underlying114 (fun _ => by kernel_rfl)
theorem fC : fh prog 117 #[(0, 1), (1, 1), (2, 1)]:= uh underlying117 (fun _ => by kernel_rfl)
theorem pI : fh prog 120 #[(0, 1), (1, 1), (2, 1)]:= uh underlying120 (fun _ => by kernel_rfl)
theorem qI : fh prog 133 #[(0, 1), (1, 1), (2, 1), (3, 1)]:= uh underlying133 (fun _ => by kernel_rfl)
theorem rI : fh prog 149 #[(0, 1)]:= uh underlying149 (fun _ => by kernel_rfl)
theorem sI : fh prog 157 #[(0, 1), (1, 6), (7, 1)]:= uh underlying157 (fun _ => by kernel_rfl)
theorem tI : fh prog 159 #[(0, 1), (1, 2)]:= uh underlying159 (fun _ => by kernel_rfl)
theorem hv : fh prog 171 #[(0, 1), (1, 1)]:= uh underlying171 (fun _ => by kernel_rfl)
theorem uI : fh prog 173 #[(0, 1), (1, 1), (2, 1), (3, 1), (4, 2), (6, 1)]:= uh underlying173 (fun _ => by kernel_rfl)
theorem vI : fh prog 181 #[(0, 1), (1, 1), (2, 1), (3, 1)]:= uh underlying181 (fun _ => by kernel_rfl)
theorem kl : fh prog 193 #[(0, 1), (1, 1), (2, 1), (3, 1)]:= uh underlying193 (fun _ => by kernel_rfl)
theorem mq : fh prog 195 #[(0, 1), (1, 1), (2, 4), (6, 1), (7, 1)]:= uh underlying195 (fun _ => by kernel_rfl)
theorem wI : fh prog 208 #[(0, 1), (1, 1), (2, 1)]:= uh underlying208 (fun _ => by kernel_rfl)
theorem gC : fh prog 210 #[(0, 1), (1, 1)]:= uh underlying210 (fun _ => by kernel_rfl)
theorem xI : fh prog 237 #[(0, 1), (1, 1)]:= uh underlying237 (fun _ => by kernel_rfl)
theorem yI : fh prog 261 #[(0, 1), (1, 1), (2, 1)]:= uh underlying261 (fun _ => by kernel_rfl)
theorem Er : fh prog 274 #[(0, 1), (1, 1)]:= uh underlying274 (fun _ => by kernel_rfl)
theorem KI : fh prog 29 #[(0, 1), (1, 1), (2, 1), (3, 1), (4, 1), (5, 1), (6, 1)]:= uh underlying29 (fun _ => by kernel_rfl)
theorem Pr : fh prog 45 #[(0, 1), (1, 1)]:= uh underlying45 (fun _ => by kernel_rfl)
theorem iz : fh prog 51 #[(0, 1), (1, 1), (2, 1)]:= uh underlying51 (fun _ => by kernel_rfl)
theorem LI : fh prog 56 #[(0, 1), (1, 1)]:= uh underlying56 (fun _ => by kernel_rfl)
theorem qC : fh prog 59 #[(0, 1), (1, 1), (2, 1)]:= uh underlying59 (fun _ => by kernel_rfl)
theorem MI : fh prog 69 #[(0, 1), (1, 1), (2, 1), (3, 1), (4, 1), (5, 1), (6, 1), (7, 1), (8, 1)]:= uh underlying69 (fun _ => by kernel_rfl)
theorem fi : fh prog 74 #[(0, 1), (1, 1)]:= uh underlying74 (fun _ => by kernel_rfl)
theorem NI : fh prog 83 #[(0, 1), (1, 1), (2, 1)]:= uh underlying83 (fun _ => by kernel_rfl)
theorem pq : fh prog 87 #[(0, 1), (1, 1)]:= uh underlying87 (fun _ => by kernel_rfl)
theorem jz : fh prog 91 #[(0, 1), (1, 1), (2, 2), (4, 2), (6, 1), (7, 1), (8, 1)]:= uh underlying91 (fun _ => by kernel_rfl)
theorem OI : fh prog 98 #[(0, 1), (1, 1), (2, 1)]:= uh underlying98 (fun _ => by kernel_rfl)
theorem hC : ∀ w, (zeroValue 171).run prog w = .ok (.agg #[.slice none 0 0, .slice none 0 0]) w := zr (by kernel_rfl)
theorem iC : ∀ w, (zeroValue 205).run prog w = .ok (.agg #[.slice none 0 0, .slice none 0 0, .slice none 0 0]) w := zr (by kernel_rfl)
theorem To : ∀ w, (zeroValue 3).run prog w = .ok (.int .i64 0) w := zr (by kernel_rfl)
theorem PI : ∀ w, (zeroValue 87).run prog w = .ok (.agg #[.int .i64 0, S []]) w := zr (by kernel_rfl)
theorem Tn : ∀ w, (zeroValue 99).run prog w = .ok (.pointer none) w := zr (by kernel_rfl)
end Go.Proofs.YthdpoglpdpfnbaaGreatDoor
namespace Go.Proofs
open Go.Shelf
def Tryz.OC : Go.Shelf.Ren := ⟨fun | 174 => 54 | 247 => 90 | 245 => 91 | 287 => 120 | 279 => 121 | 280 => 122 | 281 => 123 | 282 => 124 | 321 => 142 | 322 => 143 | 316 => 144 | 171 => 146 | 205 => 145 | 243 => 155 | 246 => 163 | 283 => 173 | 284 => 174 | 285 => 175 | 286 => 176 | 129 => 186 | 317 => 185 | 318 => 187 | 319 => 188 | 320 => 189 | 337 => 190 | 338 => 191 | n => n, fun | 9 => 9 | 3 => 3 | 2 => 2 | 75 => 137 | 85 => 138 | 4 => 4 | 167 => 226 | 5 => 5 | 53 => 227 | 175 => 228 | 46 => 230 | 168 => 231 | 37 => 248 | 0 => 0 | 210 => 250 | 21 => 21 | 127 => 267 | 145 => 270 | 143 => 268 | 171 => 285 | 173 => 288 | 212 => 299 | 51 => 290 | 20 => 20 | 213 => 300 | 232 => 303 | 233 => 304 | 80 => 142 | n => n, fun | 15 => 0 | 16 => 1 | 17 => 3 | 18 => 4 | 19 => 5 | n => n⟩
theorem Tryz.XE : Go.Proofs.LaysC.n174 Tryz.prog Tryz.OC := {
  mixed := by kernel_rfl
  f129 := Tryz.func186.trans (congrArg some (by kernel_rfl))
  f171 := Tryz.func146.trans (congrArg some (by kernel_rfl))
  f174 := Tryz.func54.trans (congrArg some (by kernel_rfl))
  f205 := Tryz.func145.trans (congrArg some (by kernel_rfl))
  f243 := Tryz.func155.trans (congrArg some (by kernel_rfl))
  f245 := Tryz.func91.trans (congrArg some (by kernel_rfl))
  f246 := Tryz.func163.trans (congrArg some (by kernel_rfl))
  f247 := Tryz.func90.trans (congrArg some (by kernel_rfl))
  f279 := Tryz.func121.trans (congrArg some (by kernel_rfl))
  f280 := Tryz.func122.trans (congrArg some (by kernel_rfl))
  f281 := Tryz.func123.trans (congrArg some (by kernel_rfl))
  f282 := Tryz.func124.trans (congrArg some (by kernel_rfl))
  f283 := Tryz.func173.trans (congrArg some (by kernel_rfl))
  f284 := Tryz.func174.trans (congrArg some (by kernel_rfl))
  f285 := Tryz.func175.trans (congrArg some (by kernel_rfl))
  f286 := Tryz.func176.trans (congrArg some (by kernel_rfl))
  f287 := Tryz.func120.trans (congrArg some (by kernel_rfl))
  f316 := Tryz.func144.trans (congrArg some (by kernel_rfl))
  f317 := Tryz.func185.trans (congrArg some (by kernel_rfl))
  f318 := Tryz.func187.trans (congrArg some (by kernel_rfl))
  f319 := Tryz.func188.trans (congrArg some (by kernel_rfl))
  f320 := Tryz.func189.trans (congrArg some (by kernel_rfl))
  f321 := Tryz.func142.trans (congrArg some (by kernel_rfl))
  f322 := Tryz.func143.trans (congrArg some (by kernel_rfl))
  f337 := Tryz.func190.trans (congrArg some (by kernel_rfl))
  f338 := Tryz.func191.trans (congrArg some (by kernel_rfl))
  t0 := Tryz.underlying0
  a0 := Tryz.isAgg0
  z0 := Tryz.sizeOf0
  v0 := Tryz.zeroValue0
  t2 := Tryz.underlying2
  a2 := Tryz.isAgg2
  z2 := Tryz.sizeOf2
  v2 := Tryz.zeroValue2
  t3 := Tryz.underlying3
  a3 := Tryz.isAgg3
  z3 := Tryz.sizeOf3
  v3 := Tryz.zeroValue3
  t4 := Tryz.underlying4
  a4 := Tryz.isAgg4
  z4 := Tryz.sizeOf4
  v4 := Tryz.zeroValue4
  t5 := Tryz.underlying5
  a5 := Tryz.isAgg5
  z5 := Tryz.sizeOf5
  v5 := Tryz.zeroValue5
  t9 := Tryz.underlying9
  a9 := Tryz.isAgg9
  z9 := Tryz.sizeOf9
  v9 := Tryz.zeroValue9
  t20 := Tryz.underlying20
  a20 := Tryz.isAgg20
  z20 := Tryz.sizeOf20
  v20 := Tryz.zeroValue20
  t21 := Tryz.underlying21
  a21 := Tryz.isAgg21
  z21 := Tryz.sizeOf21
  v21 := Tryz.zeroValue21
  t37 := Tryz.underlying248
  a37 := Tryz.isAgg248
  z37 := Tryz.sizeOf248
  v37 := Tryz.zeroValue248
  t46 := Tryz.underlying230
  a46 := Tryz.isAgg230
  z46 := Tryz.sizeOf230
  v46 := Tryz.zeroValue230
  t51 := Tryz.underlying290
  a51 := Tryz.isAgg290
  z51 := Tryz.sizeOf290
  v51 := Tryz.zeroValue290
  t53 := Tryz.underlying227
  a53 := Tryz.isAgg227
  z53 := Tryz.sizeOf227
  v53 := Tryz.zeroValue227
  t75 := Tryz.underlying137
  a75 := Tryz.isAgg137
  z75 := Tryz.sizeOf137
  v75 := Tryz.zeroValue137
  t85 := Tryz.underlying138
  a85 := Tryz.isAgg138
  z85 := Tryz.sizeOf138
  v85 := Tryz.zeroValue138
  t127 := Tryz.underlying267
  a127 := Tryz.isAgg267
  z127 := Tryz.sizeOf267
  v127 := Tryz.zeroValue267
  t143 := Tryz.underlying268
  a143 := Tryz.isAgg268
  z143 := Tryz.sizeOf268
  v143 := Tryz.zeroValue268
  t145 := Tryz.underlying270
  a145 := Tryz.isAgg270
  z145 := Tryz.sizeOf270
  v145 := Tryz.zeroValue270
  t167 := Tryz.underlying226
  a167 := Tryz.isAgg226
  z167 := Tryz.sizeOf226
  v167 := Tryz.zeroValue226
  t168 := Tryz.underlying231
  a168 := Tryz.isAgg231
  z168 := Tryz.sizeOf231
  v168 := Tryz.zeroValue231
  t171 := Tryz.underlying285
  a171 := Tryz.isAgg285
  z171 := Tryz.sizeOf285
  v171 := Tryz.zeroValue285
  t173 := Tryz.underlying288
  a173 := Tryz.isAgg288
  z173 := Tryz.sizeOf288
  v173 := Tryz.zeroValue288
  t175 := Tryz.underlying228
  a175 := Tryz.isAgg228
  z175 := Tryz.sizeOf228
  v175 := Tryz.zeroValue228
  t210 := Tryz.underlying250
  a210 := Tryz.isAgg250
  z210 := Tryz.sizeOf250
  v210 := Tryz.zeroValue250
  t212 := Tryz.underlying299
  a212 := Tryz.isAgg299
  z212 := Tryz.sizeOf299
  v212 := Tryz.zeroValue299
  t213 := Tryz.underlying300
  a213 := Tryz.isAgg300
  z213 := Tryz.sizeOf300
  t232 := Tryz.underlying303
  a232 := Tryz.isAgg303
  z232 := Tryz.sizeOf303
  v232 := Tryz.zeroValue303
  t233 := Tryz.underlying304
  a233 := Tryz.isAgg304
  z233 := Tryz.sizeOf304
  v233 := Tryz.zeroValue304
  g15 := by kernel_rfl
  g16 := by kernel_rfl
  g17 := by kernel_rfl
  g18 := by kernel_rfl
  g19 := by kernel_rfl
  t80 := Tryz.underlying142
  a80 := Tryz.isAgg142
  z80 := Tryz.sizeOf142
  v80 := Tryz.zeroValue142
  i0 := by kernel_rfl
  i2 := by kernel_rfl
  i3 := by kernel_rfl
  i4 := by kernel_rfl
  i5 := by kernel_rfl
  i9 := by kernel_rfl
  i20 := by kernel_rfl
  i21 := by kernel_rfl
  i37 := by kernel_rfl
  i46 := by kernel_rfl
  i51 := by kernel_rfl
  i53 := by kernel_rfl
  i75 := by kernel_rfl
  i80 := by kernel_rfl
  i85 := by kernel_rfl
  i127 := by kernel_rfl
  i143 := by kernel_rfl
  i145 := by kernel_rfl
  i167 := by kernel_rfl
  i168 := by kernel_rfl
  i171 := by kernel_rfl
  i173 := by kernel_rfl
  i175 := by kernel_rfl
  i210 := by kernel_rfl
  i212 := by kernel_rfl
  i232 := by kernel_rfl
  i233 := by kernel_rfl
  m15 := by kernel_rfl
  m16 := by kernel_rfl
  m17 := by kernel_rfl
  m18 := by kernel_rfl
  m19 := by kernel_rfl
  c0 := by kernel_rfl
  c2 := by kernel_rfl
  c3 := by kernel_rfl
  c4 := by kernel_rfl
  c5 := by kernel_rfl
  c9 := by kernel_rfl
  c20 := by kernel_rfl
  c21 := by kernel_rfl
  c37 := by kernel_rfl
  c46 := by kernel_rfl
  c51 := by kernel_rfl
  c53 := by kernel_rfl
  c75 := by kernel_rfl
  c80 := by kernel_rfl
  c85 := by kernel_rfl
  c127 := by kernel_rfl
  c143 := by kernel_rfl
  c145 := by kernel_rfl
  c167 := by kernel_rfl
  c168 := by kernel_rfl
  c171 := by kernel_rfl
  c173 := by kernel_rfl
  c175 := by kernel_rfl
  c210 := by kernel_rfl
  c212 := by kernel_rfl
  c213 := by kernel_rfl
  c232 := by kernel_rfl
  c233 := by kernel_rfl }
open Go.RowKit in
theorem Tryz.strconv_ParseInt_10_at64_ok (s : ByteArray) (a : s.size ≤ 9223372036854775806) (v : Int) (h : Lib.parseIntB 64 s.data.toList = .ok v) (w : World) :
    Calls Tryz.prog 54 #[.string s, .int .i64 10, .int .i64 64] w fun e w' => e = .returned (.tuple #[.int .i64 v, .nilIface]) ∧ (w' = w ∨ ∃ t, w' = Lib.bytesWorld w 5 t):= Any.strconv_ParseInt_10_at64_ok Tryz.XE s a v h w
def Tryz.dD : Go.Shelf.Ren := ⟨fun | 144 => 126 | 143 => 147 | 219 => 156 | 217 => 164 | 225 => 165 | 224 => 166 | 267 => 167 | 266 => 177 | 314 => 178 | n => n, fun | 9 => 9 | 4 => 4 | 3 => 3 | 5 => 5 | 46 => 230 | 146 => 291 | 51 => 290 | n => n, fun | 1 => 2 | n => n⟩
theorem Tryz.mG : Go.Proofs.Lays.n144 Tryz.prog Tryz.dD := {
  mixed := by kernel_rfl
  f143 := Tryz.func147.trans (congrArg some (by kernel_rfl))
  f144 := Tryz.func126.trans (congrArg some (by kernel_rfl))
  f217 := Tryz.func164.trans (congrArg some (by kernel_rfl))
  f219 := Tryz.func156.trans (congrArg some (by kernel_rfl))
  f224 := Tryz.func166.trans (congrArg some (by kernel_rfl))
  f225 := Tryz.func165.trans (congrArg some (by kernel_rfl))
  f266 := Tryz.func177.trans (congrArg some (by kernel_rfl))
  f267 := Tryz.func167.trans (congrArg some (by kernel_rfl))
  f314 := Tryz.func178.trans (congrArg some (by kernel_rfl))
  t3 := Tryz.underlying3
  a3 := Tryz.isAgg3
  z3 := Tryz.sizeOf3
  v3 := Tryz.zeroValue3
  t4 := Tryz.underlying4
  a4 := Tryz.isAgg4
  z4 := Tryz.sizeOf4
  v4 := Tryz.zeroValue4
  t5 := Tryz.underlying5
  a5 := Tryz.isAgg5
  z5 := Tryz.sizeOf5
  v5 := Tryz.zeroValue5
  t9 := Tryz.underlying9
  a9 := Tryz.isAgg9
  z9 := Tryz.sizeOf9
  v9 := Tryz.zeroValue9
  t46 := Tryz.underlying230
  a46 := Tryz.isAgg230
  z46 := Tryz.sizeOf230
  v46 := Tryz.zeroValue230
  t51 := Tryz.underlying290
  a51 := Tryz.isAgg290
  z51 := Tryz.sizeOf290
  v51 := Tryz.zeroValue290
  t146 := Tryz.underlying291
  a146 := Tryz.isAgg291
  z146 := Tryz.sizeOf291
  v146 := Tryz.zeroValue291
  g1 := by kernel_rfl }
open Go.RowKit Go.Lib in
theorem Tryz.strings_Contains (s sub : ByteArray) (m : Int) (w : World) (a : s.size < 4294967281) (hm : w.cell? ⟨2, 0, none⟩ = some (.int .i64 m)) :
    Calls Tryz.prog 126 #[.string s, .string sub] w fun e w' => e = .returned (.bool (Lib.contains s.data.toList sub.data.toList)) ∧ w' = w := Any.strings_Contains Tryz.mG s sub m w a hm
def Tryz.eD : Go.Shelf.Ren := ⟨fun | 107 => 116 | 108 => 141 | n => n, fun | 28 => 27 | 3 => 3 | 4 => 4 | 0 => 0 | n => n, fun | n => n⟩
theorem Tryz.vB : Go.Proofs.Lays.n107 Tryz.prog Tryz.eD := {
  mixed := by kernel_rfl
  f107 := Tryz.func116.trans (congrArg some (by kernel_rfl))
  f108 := Tryz.func141.trans (congrArg some (by kernel_rfl))
  t0 := Tryz.underlying0
  a0 := Tryz.isAgg0
  z0 := Tryz.sizeOf0
  v0 := Tryz.zeroValue0
  t3 := Tryz.underlying3
  a3 := Tryz.isAgg3
  z3 := Tryz.sizeOf3
  v3 := Tryz.zeroValue3
  t4 := Tryz.underlying4
  a4 := Tryz.isAgg4
  z4 := Tryz.sizeOf4
  v4 := Tryz.zeroValue4
  t28 := Tryz.underlying27
  a28 := Tryz.isAgg27
  z28 := Tryz.sizeOf27
  v28 := Tryz.zeroValue27 }
open Go.Lib in
theorem Tryz.slices_Contains_int (b off n c : Nat) (a : List Int) (x : Int) (w : World) (d : n ≤ a.length) (f : n ≤ 9223372036854775807) (hc : ∀ j, j < a.length → w.cell? ⟨b, off + j, none⟩ = some (.int .i64 (a.getD j 0))) :
    Calls Tryz.prog 116 #[.slice (some ⟨b, off, none⟩) n c, .int .i64 x] w fun e w' => e = .returned (.bool ((a.take n).contains x)) ∧ w' = w := Any.slices_Contains_int Tryz.vB b off n c a x w d f hc
open Go.Lib in
theorem Tryz.slices_Contains_int_empty (a : Option Addr) (c : Nat) (x : Int) (w : World) :
    Calls Tryz.prog 116 #[.slice a 0 c, .int .i64 x] w fun e w' => e = .returned (.bool false) ∧ w' = w := Any.slices_Contains_int_empty Tryz.vB a c x w
def Tryz.fD : Go.Shelf.Ren := ⟨fun | 110 => 102 | 109 => 134 | n => n, fun | 31 => 188 | 9 => 9 | 4 => 4 | 3 => 3 | 0 => 0 | n => n, fun | n => n⟩
theorem Tryz.wB : Go.Proofs.Lays.n110 Tryz.prog Tryz.fD := {
  mixed := by kernel_rfl
  f109 := Tryz.func134.trans (congrArg some (by kernel_rfl))
  f110 := Tryz.func102.trans (congrArg some (by kernel_rfl))
  t0 := Tryz.underlying0
  a0 := Tryz.isAgg0
  z0 := Tryz.sizeOf0
  v0 := Tryz.zeroValue0
  t3 := Tryz.underlying3
  a3 := Tryz.isAgg3
  z3 := Tryz.sizeOf3
  v3 := Tryz.zeroValue3
  t4 := Tryz.underlying4
  a4 := Tryz.isAgg4
  z4 := Tryz.sizeOf4
  v4 := Tryz.zeroValue4
  t9 := Tryz.underlying9
  a9 := Tryz.isAgg9
  z9 := Tryz.sizeOf9
  v9 := Tryz.zeroValue9
  t31 := Tryz.underlying188
  a31 := Tryz.isAgg188
  z31 := Tryz.sizeOf188
  v31 := Tryz.zeroValue188 }
open Go.Lib in
theorem Tryz.slices_Contains_string (b off n c : Nat) (a : List ByteArray) (x : ByteArray) (w : World) (d : n ≤ a.length) (f : n ≤ 9223372036854775807) (hc : ∀ j, j < a.length → w.cell? ⟨b, off + j, none⟩ = some (.string (a.getD j ByteArray.empty))) :
    Calls Tryz.prog 102 #[.slice (some ⟨b, off, none⟩) n c, .string x] w fun e w' => e = .returned (.bool (Lib.containsS (a.take n) x)) ∧ w' = w := Any.slices_Contains_string Tryz.wB b off n c a x w d f hc
open Go.Lib in
theorem Tryz.slices_Contains_string_empty (a : Option Addr) (c : Nat) (x : ByteArray) (w : World) :
    Calls Tryz.prog 102 #[.slice a 0 c, .string x] w fun e w' => e = .returned (.bool false) ∧ w' = w := Any.slices_Contains_string_empty Tryz.wB a c x w
def Tryz.HC : Go.Shelf.Ren := ⟨fun | 15 => 109 | n => n, fun | 22 => 27 | 3 => 3 | 4 => 4 | n => n, fun | n => n⟩
theorem Tryz.Vw : Go.Proofs.Lays2.n15 Tryz.prog Tryz.HC := {
  mixed := by kernel_rfl
  f15 := Tryz.func109.trans (congrArg some (by kernel_rfl))
  t3 := Tryz.underlying3
  a3 := Tryz.isAgg3
  z3 := Tryz.sizeOf3
  v3 := Tryz.zeroValue3
  t4 := Tryz.underlying4
  a4 := Tryz.isAgg4
  z4 := Tryz.sizeOf4
  v4 := Tryz.zeroValue4
  t22 := Tryz.underlying27
  a22 := Tryz.isAgg27
  z22 := Tryz.sizeOf27
  v22 := Tryz.zeroValue27
  i3 := by kernel_rfl }
open Go.RowKit Go.Lib in
theorem Tryz.slices_Clone_int (b off n c : Nat) (a : List Int) (w : World) (f : n ≤ a.length) (g : n * 8 ≤ 140737488355328) (hc : ∀ j, j < a.length → w.cell? ⟨b, off + j, none⟩ = some (.int .i64 (a.getD j 0))) :
    Calls Tryz.prog 109 #[.slice (some ⟨b, off, none⟩) n c] w fun e w' => ∃ d, e = .returned d ∧ w'.ownsRow w.heap.size 3 1 d n ((a.take n).map (Value.int .i64)) ∧ d ≠ .slice none 0 0 ∧ Below w.heap.size w w' := Any.slices_Clone_int Tryz.Vw b off n c a w f g hc
open Go.RowKit Go.Lib in
theorem Tryz.slices_Clone_int_nil (n c : Nat) (w : World) :
    Calls Tryz.prog 109 #[.slice none n c] w fun e w' => e = .returned (.slice none 0 0) ∧ w' = w := Any.slices_Clone_int_nil Tryz.Vw n c w
open Go.RowKit Go.Lib in
theorem Tryz.slices_Clone_int_zero (a : Addr) (c : Nat) (w : World) :
    Calls Tryz.prog 109 #[.slice (some a) 0 c] w fun e w' => ∃ b, e = .returned b ∧ w'.ownsRow w.heap.size 3 1 b 0 [] ∧ b ≠ .slice none 0 0 ∧ Below w.heap.size w w' := Any.slices_Clone_int_zero Tryz.Vw a c w
def Tryz.zC : Go.Shelf.Ren := ⟨fun | 41 => 110 | n => n, fun | 22 => 169 | 23 => 4 | 4 => 4 | n => n, fun | n => n⟩
theorem Tryz.xz : Go.Proofs.SlLaysE0.n41 Tryz.prog Tryz.zC := {
  mixed := by kernel_rfl
  f41 := ⟨Tryz.f110.name, by decide, Tryz.func110.trans (congrArg some (by kernel_rfl))⟩
  t4 := Tryz.underlying4
  a4 := Tryz.isAgg4
  z4 := Tryz.sizeOf4
  v4 := Tryz.zeroValue4
  t22 := Tryz.underlying169
  a22 := Tryz.isAgg169
  z22 := Tryz.sizeOf169
  v22 := Tryz.zeroValue169 }
open Go.RowKit Go.Lib in
theorem Tryz.CC (i0 : TypeInfo) (z : Value) (size bytes : Nat) (fb : Tryz.prog.info? 4 = some i0) (d : i0.zero = some z) (f : i0.size = size) (g : i0.bytes = bytes) (h : z.cells.size = size) (i : 0 < size) (z23 : ∀ w, (Go.sizeOf 4).run Tryz.prog w = .ok size w) (b off n c : Nat) (news : List Value) (w : World) (k : news.length = n * size) (l : n ≤ maxLen) (m : n * bytes ≤ 140737488355328) (hc : ∀ j u, news[j]? = some u → w.cell? ⟨b, off + j, none⟩ = some u) (o : ∀ u ∈ news, u.oneCell' = true) :
    Calls Tryz.prog 110 #[.slice (some ⟨b, off, none⟩) n c] w fun e w' => ∃ a, e = .returned a ∧ w'.ownsRow w.heap.size 4 size a n news ∧ a ≠ .slice none 0 0 ∧ Below w.heap.size w w' := AnyE.slices_Clone Tryz.xz i0 z size bytes fb d f g h i z23 b off n c news w k l m hc o
open Go.RowKit Go.Lib in
theorem Tryz.yC (n c : Nat) (w : World) :
    Calls Tryz.prog 110 #[.slice none n c] w fun e w' => e = .returned (.slice none 0 0) ∧ w' = w := AnyE.slices_Clone_nil Tryz.xz n c w
end Go.Proofs
namespace Go.Proofs.YthdpoglpdpfnbaaGreatDoor
open Go.vc Go.hd Go.Y Tryz
def jb : M := fun w => ∃ m, w.cell? ⟨2, 0, none⟩ = some (.int .i64 m)
theorem CH {E : M}{w0 w : World}{J : List Fb}{l : List UInt8}{r : Int}(g : Vy l = some r) (b : la E w0 w J) :
    Ab prog 54 [S l, .int .i64 10, .int .i64 64] w (fun v w' => v = .tuple ⟨[.int .i64 r, .nilIface]⟩ ∧ la E w0 w' J):= by
  unfold Vy at g;split at g
  · rename_i c;cases a : Lib.parseIntB 64 l with
    | ok v =>
      rw [a] at g;obtain rfl := Option.some.inj g;refine ⟨(strconv_ParseInt_10_at64_ok ⟨⟨l⟩⟩ c v a w).mono fun e w' he => ?_⟩;obtain ⟨rfl, hw⟩ := he;refine ⟨rfl, ?_⟩;rcases hw with rfl | ⟨t, rfl⟩
      · exact b
      · have h := Lib.bytesWorld_below w 5 t;exact b.grow ⟨h.os, h.tape, h.output, h.size, fun k d _ => h.block k d⟩
    | _ => rw [a] at g; cases g
  · cases g
theorem nG {E : M}{w0 w : World}{J : List Fb}{l sub : List UInt8}{b : Bool}(d : ga jb E) (g : py l sub = some b) (c : la E w0 w J) :
    Ab prog 126 [S l, S sub] w (fun v w' => v = .bool b ∧ la E w0 w' J):= by
  unfold py at g;split at g
  · rename_i f;obtain rfl := Option.some.inj g;obtain ⟨m, hm⟩ := d w c.a;refine ⟨(strings_Contains ⟨⟨l⟩⟩ ⟨⟨sub⟩⟩ m w f hm).mono fun e w' he => ?_⟩;obtain ⟨rfl, rfl⟩ := he;exact ⟨rfl, c⟩
  · cases g
end Go.Proofs.YthdpoglpdpfnbaaGreatDoor
namespace Go.Proofs.YthdpoglpdpfnbaaGreatDoor
open Go.vc Go.hd Go.Y Go.RowKit Tryz
section
variable {μ E : M}{w0 w : World}{J rs : List Fb}
def hq (w : World) (v : Value) (vs : List Value) : Prop := (vs = [] ∧ ∃ a c, v = .slice a 0 c) ∨ ∃ b o c, v = .slice (some ⟨b, o, none⟩) vs.length c ∧ vs.length ≤ 9223372036854775807 ∧ ∀ j y, vs[j]? = some y → w.cell? ⟨b, o + j, none⟩ = some y
theorem GA {α : Type}[Ua α]{f : α → Value}(a : ∀ (μ : M) (l : List Value) (x : α), Ua.cs μ l x → l = [f x]) : ∀ {l : List α}{cells : List Value}, ma μ cells l → cells = l.map f
  | [], cells, h => by rw [ma] at h; simp [h]
  | x :: l, cells, h => by
    rw [ma] at h;obtain ⟨cs, t, rfl, b, c⟩ := h;rw [a _ _ _ b, GA a c];rfl
theorem Ep {α : Type}[Ua α]{f : α → Value}(c : ∀ (μ : M) (l : List Value) (x : α), Ua.cs μ l x → l = [f x]){v : Value}{T : TypeId}{l : List α}{cells : List Value}(h : Row w v T 1 l.length cells) (d : ma μ cells l) : hq w v (l.map f):= by
  have e := GA c d;subst e;rcases h.2 with ⟨rfl, b⟩ | ⟨g, o, cap, cur, rfl, i, k, b, n, m⟩
  · exact .inl ⟨by rw [List.length_eq_zero_iff.1 b];rfl, none, 0, rfl⟩
  · refine .inr ⟨g, o, cap, by simp, by simp;exact Nat.le_trans k (Nat.le_trans b (by decide)), fun j y a => ?_⟩;rw [cell_of_row w g (o + j) cur T (0, 0) i];rw [← m, List.getElem?_take] at a;split at a
    · rw [List.getElem?_drop] at a;simpa using a
    · cases a
theorem Pp {α : Type}[Ua α]{f : α → Value}(g : ∀ (μ : M) (l : List Value) (x : α), Ua.cs μ l x → l = [f x]) (i : Ua.sz α = 1){a : Option Addr}{c : Nat}{l : List α}(h : wa μ a c l) (hw : μ w) : hq w (.slice a l.length c) (l.map f):= by
  rcases h.el with rfl | ⟨b, o, rfl, p, k⟩
  · exact .inl ⟨rfl, a, c, rfl⟩
  · refine .inr ⟨b, o, c, by simp, by simp;exact wa.len h, fun j y d => ?_⟩;simp only [List.getElem?_map, Option.map_eq_some_iff] at d;obtain ⟨x, m, rfl⟩ := d;obtain ⟨e, n⟩ := k j x m;rw [g _ _ _ n, i] at e;have := e w hw 0 _ rfl;simpa using this
theorem kz (μ : M) (l : List Value) (x : List UInt8) (h : Ua.cs μ l x) : l = [S x]:= h
theorem Qr (μ : M) (l : List Value) (x : Int) (h : Ua.cs μ l x) : l = [.int .i64 x]:= h
theorem Zv {v : Value}{l : List (List UInt8)}{x : List UInt8}(h : hq w v (l.map S)) : Ab prog 102 [v, S x] w (fun v w' => v = .bool (l.contains x) ∧ w' = w):= by
  rcases h with ⟨f, a, c, rfl⟩ | ⟨b, o, c, rfl, g, hc⟩
  · obtain rfl : l = []:= List.map_eq_nil_iff.1 f;exact ⟨(slices_Contains_string_empty a c ⟨⟨x⟩⟩ w).mono fun e w' he => by
      obtain ⟨rfl, rfl⟩ := he;exact ⟨rfl, rfl⟩⟩
  · refine ⟨(slices_Contains_string b o (l.map S).length c (l.map fun y => ⟨⟨y⟩⟩) ⟨⟨x⟩⟩ w (by simp) g ?_).mono fun e w' he => ?_⟩
    · intro j i;have d : j < l.length := by simpa using i
      rw [hc j (S l[j]) (by simp [d])];simp [List.getElem?_eq_getElem d, S]
    · obtain ⟨rfl, rfl⟩ := he;refine ⟨?_, rfl⟩;congr 1;rw [List.take_of_length_le (by simp), Bool.eq_iff_iff, Lib.containsS_iff, List.contains_iff_mem];constructor
      · intro hm;obtain ⟨y, m, e⟩ := List.mem_map.1 hm;have k : y = x := congrArg (fun b : ByteArray => b.data.toList) e;rwa [← k]
      · exact fun hm => List.mem_map.2 ⟨x, hm, rfl⟩
theorem PC {v : Value}{l : List Int}{x : Int}(h : hq w v (l.map (Value.int .i64))) : Ab prog 116 [v, .int .i64 x] w (fun v w' => v = .bool (l.contains x) ∧ w' = w):= by
  rcases h with ⟨f, a, c, rfl⟩ | ⟨b, o, c, rfl, g, hc⟩
  · obtain rfl : l = []:= List.map_eq_nil_iff.1 f;exact ⟨(slices_Contains_int_empty a c x w).mono fun e w' he => by
      obtain ⟨rfl, rfl⟩ := he;exact ⟨rfl, rfl⟩⟩
  · refine ⟨(slices_Contains_int b o (l.map (Value.int .i64)).length c l x w (by simp) g ?_).mono fun e w' he => ?_⟩
    · intro j d;rw [hc j (.int .i64 l[j]) (by simp [d])];simp [List.getElem?_eq_getElem d]
    · obtain ⟨rfl, rfl⟩ := he;refine ⟨?_, rfl⟩;rw [List.take_of_length_le (by simp)]
theorem au {v : Value}{l : List Int}(r : l.length ≤ 65536) (h : hq w v (l.map (Value.int .i64))) (i : la E w0 w rs) :
    Ab prog 109 [v] w (fun m w' => la E w0 w' (.row m 3 1 l.length (l.map (Value.int .i64)):: rs)):= by
  rcases h with ⟨q, a, c, rfl⟩ | ⟨b, o, c, rfl, s, hc⟩
  · obtain rfl : l = []:= List.map_eq_nil_iff.1 q;cases a with
    | none => exact ⟨(slices_Clone_int_nil 0 c w).mono fun e w' he => by
        obtain ⟨rfl, rfl⟩ := he;exact i.Oh 3 1⟩
    | some a => exact ⟨(slices_Clone_int_zero a c w).mono fun e w' he => by
        obtain ⟨m, rfl, g, -, d⟩ := he;obtain ⟨n, f⟩ := bw g;exact i.newRow ⟨d.os, d.tape, d.output, d.size, fun k f _ => d.block k f⟩ n f⟩
  · refine ⟨(slices_Clone_int b o (l.map (Value.int .i64)).length c l w (by simp) (by simp;omega) ?_).mono fun e w' he => ?_⟩
    · intro j p;rw [hc j (.int .i64 l[j]) (by simp [p])];simp [List.getElem?_eq_getElem p]
    · obtain ⟨m, rfl, g, -, d⟩ := he;rw [List.take_of_length_le (by simp), List.length_map] at g;obtain ⟨n, f⟩ := bw g;exact i.newRow ⟨d.os, d.tape, d.output, d.size, fun k f _ => d.block k f⟩ n f
theorem bu {v : Value}{l : List Bool}(C : l.length ≤ 65536) (h : hq w v (l.map Value.bool)) (d : la E w0 w rs) :
    Ab prog 110 [v] w (fun s w' => la E w0 w' (.row s 4 1 l.length (l.map Value.bool):: rs)):= by
  rcases h with ⟨f, a, c, rfl⟩ | ⟨b, o, c, rfl, D, hc⟩
  · obtain rfl : l = []:= List.map_eq_nil_iff.1 f;cases a with
    | none => exact ⟨(yC 0 c w).mono fun e w' he => by
        obtain ⟨rfl, rfl⟩ := he;exact d.Oh 4 1⟩
    | some a =>
      refine enter func110 rfl (frm := [_, _, _, _, _, _, _, _]) rfl ?_;refine Fa ?_;refine Oa ?_;refine wl (Oi xa (ha Sa) ?_);refine Ha ?_;refine oa ?_;refine Fa ?_;refine Fa ?_;refine Oa ?_;refine wl (sh (aa d0) (ha yb) ?_);refine wl (FF underlying169 (aa d3) (ha wb) ?_);refine Ha ?_;refine oa ?_;refine ml (aa d4) ?_;refine Na ?_;refine oa ?_;refine Fa ?_;refine Oa ?_;refine wl (RG underlying169 Wj d ?_);clear d;intro gg F G d;refine pu (ha cc) ?_;replace d := d.zn (n := 0) (sz := Ua.sz Bool) d0 rfl (by decide) ya;refine wl (sh (aa d0) (ha ec) ?_);refine wl (Su (α := Bool) (l := []) (ys := []) (news := []) underlying169 Wj rfl (aa d5) (aa d6) d d0 (fun e => absurd rfl e) rfl (show app [] [] = some [] from rfl) (by decide) ?_);clear d;intro v2 H y A d;cases (show _ = y from A);replace d := Sep.Pe d ya;refine pu (ha Gb) ?_;refine wl (Oi (aa d7) (ha Sa) ?_);refine Ha ?_;refine oa ?_;refine eb ?_;refine ic rfl d2 ?_;exact d
  · have fb : ∃ i z, prog.info? 4 = some i ∧ i.zero = some z ∧ i.size = 1 ∧ i.bytes = 1 ∧ z.cells.size = 1 := by
      obtain ⟨i, z, f, j, m, p, q⟩ := (Wj).inf;exact ⟨i, z, f, j, p, q, by rw [m];rfl⟩
    obtain ⟨i, z, f, j, m, p, q⟩ := fb;refine ⟨(CC i z 1 1 f j m p q (by decide) (fun w => (Wj).sizeOf) b o (l.map Value.bool).length c (l.map Value.bool) w (by simp) (by simp [maxLen];omega) (by simp;omega) hc (fun u hu => ?_)).mono fun e w' he => ?_⟩
    · obtain ⟨x, -, rfl⟩ := List.mem_map.1 hu;rfl
    · obtain ⟨s, rfl, t, -, g⟩ := he;rw [List.length_map] at t;obtain ⟨B, r⟩ := bw t;exact d.newRow ⟨g.os, g.tape, g.output, g.size, fun k r _ => g.block k r⟩ B r
theorem iv (μ : M) (l : List Value) (x : Bool) (h : Ua.cs μ l x) : l = [.bool x]:= h
theorem tm {α : Type}[Ua α]{f : α → Value}(a : ∀ (μ : M) (x : α), Ua.cs μ [f x] x) : ∀ (l : List α), ma μ (l.map f) l
  | [] => rfl
  | x :: l => ⟨[f x], _, rfl, a μ x, tm a l⟩
end
end Go.Proofs.YthdpoglpdpfnbaaGreatDoor
