/- The shelf: texts of Fl. -/
import Derived.Test.YthdpoglpdpfnbaaGreatDoorCXt
import Derived.Test.YthdpoglpdpfnbaaGreatDoorProg
import Derived.KernelRfl
import Derived.Shelf.Strconv.Itoa0
import Derived.Shelf.Strconv.Itoa1
import Derived.Shelf.LaysM
import Derived.Shelf.Strconv.Itoa2
import Derived.Shelf.Strconv.Itoa3
import Derived.Shelf.Strconv.ParseIntEmpty
import Derived.Shelf.Strconv.Clone
import Derived.Shelf.Strconv.SyntaxError
import Derived.Shelf.LaysC
import Derived.Shelf.Strconv.ToError
import Derived.Shelf.Strconv.Lower
import Derived.Shelf.Strconv.ParseUint10
import Derived.Shelf.Strconv.ParseUint10Empty
import Derived.Shelf.Strconv.ParseUint10Any
import Derived.Shelf.Strconv.ParseInt10
import Derived.Shelf.Strconv.RangeError
import Derived.Shelf.Strconv.ToErrorRange
import Derived.Shelf.Strconv.ParseUintEmpty
import Derived.Shelf.Strconv.ParseUint10b64
import Derived.Shelf.Strconv.ParseUint10b32
import Derived.Shelf.Strconv.ParseUint10b16
import Derived.Shelf.Strconv.ParseUint10b8
import Derived.Shelf.Strconv.ParseUint10At
import Derived.Shelf.Strconv.ParseInt10At64
import Derived.Shelf.Strconv.ParseInt10At32
import Derived.Shelf.Strconv.ParseInt10At16
import Derived.Shelf.Strconv.ParseInt10At8
import Derived.Shelf.Strconv.ParseInt10All
import Derived.Shelf.Strconv.ParseIntPublic10
import Derived.Shelf.Strings.Search1
import Derived.Shelf.Strings.Search2
import Derived.Shelf.Strings.Search3
import Derived.Shelf.Strings.Shaped
import Derived.Shelf.Slices.Turned
import Derived.Ground.Names2Prog
import Derived.Shelf.Slices.Clone
import Derived.Ground.SlgnProg
import Derived.Shelf.SlicesE.Clone
import Derived.Test.YthdpoglpdpfnbaaGreatDoorCMd
import Derived.Test.YthdpoglpdpfnbaaGreatDoorCXu
import Derived.Lib.SlicesS
set_option linter.unusedSimpArgs false
set_option linter.unusedVariables false
set_option linter.unusedSectionVars false
namespace Go.Proofs.YthdpoglpdpfnbaaGreatDoor
open Go.wc Go.hd Tryz
instance aM : Lb prog 7 := Zb func7
instance bM : Lb prog 8 := Zb func8
instance cM : Lb prog 9 := Zb func9
instance VG : Lb prog 10 := Zb func10
instance wK : Lb prog 11 := Zb func11
instance xK : Lb prog 12 := Zb func12
instance yK : Lb prog 13 := Zb func13
instance zK : Lb prog 14 := Zb func14
instance AK : Lb prog 15 := Zb func15
instance BK : Lb prog 16 := Zb func16
instance CK : Lb prog 17 := Zb func17
instance DK : Lb prog 18 := Zb func18
instance WG : Lb prog 19 := Zb func19
instance XG : Lb prog 20 := Zb func20
instance EK : Lb prog 21 := Zb func21
instance YG : Lb prog 22 := Zb func22
instance ZG : Lb prog 23 := Zb func23
instance FK : Lb prog 24 := Zb func24
instance aH : Lb prog 25 := Zb func25
instance GK : Lb prog 27 := Zb func27
instance bH : Lb prog 28 := Zb func28
instance HK : Lb prog 29 := Zb func29
instance IK : Lb prog 30 := Zb func30
instance Co : Lb prog 31 := Zb func31
instance JK : Lb prog 32 := Zb func32
instance KK : Lb prog 33 := Zb func33
instance LK : Lb prog 34 := Zb func34
instance MK : Lb prog 35 := Zb func35
instance GB : Lb prog 36 := Zb func36
instance cH : Lb prog 37 := Zb func37
instance HB : Lb prog 38 := Zb func38
instance IB : Lb prog 39 := Zb func39
instance gy : Lb prog 40 := Zb func40
instance NK : Lb prog 42 := Zb func42
instance OK : Lb prog 43 := Zb func43
instance PK : Lb prog 44 := Zb func44
instance QK : Lb prog 45 := Zb func45
instance SK : Lb prog 46 := Zb func46
instance TK : Lb prog 47 := Zb func47
instance UK : Lb prog 48 := Zb func48
instance VK : Lb prog 49 := Zb func49
instance dH : Lb prog 50 := Zb func50
instance Wu : Lb prog 51 := Zb func51
instance eH : Lb prog 52 := Zb func52
instance JB : Lb prog 53 := Zb func53
instance fH : Lb prog 54 := Zb func54
instance WK : Lb prog 55 := Zb func55
instance XK : Lb prog 56 := Zb func56
instance YK : Lb prog 57 := Zb func57
instance ZK : Lb prog 58 := Zb func58
instance aL : Lb prog 59 := Zb func59
instance bL : Lb prog 60 := Zb func60
instance cL : Lb prog 61 := Zb func61
instance dL : Lb prog 62 := Zb func62
instance eL : Lb prog 63 := Zb func63
instance fL : Lb prog 64 := Zb func64
instance gH : Lb prog 65 := Zb func65
instance gL : Lb prog 66 := Zb func66
instance KB : Lb prog 67 := Zb func67
instance Xu : Lb prog 68 := Zb func68
instance hL : Lb prog 69 := Zb func69
instance iL : Lb prog 70 := Zb func70
instance jL : Lb prog 71 := Zb func71
instance hH : Lb prog 72 := Zb func72
instance kL : Lb prog 73 := Zb func73
instance LB : Lb prog 74 := Zb func74
instance iH : Lb prog 75 := Zb func75
instance jH : Lb prog 76 := Zb func76
instance kH : Lb prog 77 := Zb func77
instance lH : Lb prog 78 := Zb func78
instance lL : Lb prog 79 := Zb func79
instance mL : Lb prog 80 := Zb func80
instance MB : Lb prog 81 := Zb func81
instance mH : Lb prog 82 := Zb func82
instance nH : Lb prog 83 := Zb func83
instance nL : Lb prog 84 := Zb func84
instance oL : Lb prog 85 := Zb func85
instance oH : Lb prog 86 := Zb func86
instance pL : Lb prog 87 := Zb func87
instance qL : Lb prog 88 := Zb func88
instance pH : Lb prog 89 := Zb func89
instance rL : Lb prog 92 := Zb func92
instance sL : Lb prog 93 := Zb func93
instance nr : Lb prog 94 := Zb func94
instance tL : Lb prog 95 := Zb func95
instance uL : Lb prog 96 := Zb func96
instance vL : Lb prog 97 := Zb func97
instance wL : Lb prog 98 := Zb func98
instance xL : Lb prog 99 := Zb func99
instance YI : Lb prog 100 := Zb func100
instance HF : Lb prog 101 := Zb func101
instance Ox : Lb prog 102 := Zb func102
instance ZI : Lb prog 103 := Zb func103
instance IF : Lb prog 104 := Zb func104
instance JF : Lb prog 105 := Zb func105
instance KF : Lb prog 106 := Zb func106
instance LF : Lb prog 108 := Zb func108
instance Eu : Lb prog 109 := Zb func109
instance Fu : Lb prog 110 := Zb func110
instance hB : Lb prog 111 := Zb func111
instance iB : Lb prog 112 := Zb func112
instance aJ : Lb prog 113 := Zb func113
instance bJ : Lb prog 114 := Zb func114
instance cJ : Lb prog 115 := Zb func115
instance MF : Lb prog 116 := Zb func116
instance dJ : Lb prog 117 := Zb func117
instance jB : Lb prog 118 := Zb func118
instance eJ : Lb prog 119 := Zb func119
instance fJ : Lb prog 125 := Zb func125
instance NF : Lb prog 126 := Zb func126
instance OF : Lb prog 127 := Zb func127
instance Tp : Lb prog 128 := Zb func128
instance kB : Lb prog 129 := Zb func129
instance gJ : Lb prog 130 := Zb func130
instance PF : Lb prog 131 := Zb func131
instance QF : Lb prog 132 := Zb func132
instance hJ : Lb prog 133 := Zb func133
instance iJ : Lb prog 135 := Zb func135
instance RF : Lb prog 136 := Zb func136
instance jJ : Lb prog 137 := Zb func137
instance kJ : Lb prog 138 := Zb func138
instance lJ : Lb prog 139 := Zb func139
instance mJ : Lb prog 140 := Zb func140
instance SF : Lb prog 148 := Zb func148
instance nJ : Lb prog 149 := Zb func149
instance oJ : Lb prog 150 := Zb func150
instance Gu : Lb prog 151 := Zb func151
instance Uf : Lb prog 152 := Zb func152
instance pJ : Lb prog 153 := Zb func153
instance qJ : Lb prog 154 := Zb func154
instance rJ : Lb prog 157 := Zb func157
instance sJ : Lb prog 158 := Zb func158
instance tJ : Lb prog 159 := Zb func159
instance lB : Lb prog 160 := Zb func160
instance TF : Lb prog 161 := Zb func161
instance UF : Lb prog 162 := Zb func162
instance uJ : Lb prog 168 := Zb func168
instance vJ : Lb prog 169 := Zb func169
instance wJ : Lb prog 170 := Zb func170
instance jg : Lb prog 171 := Zb func171
instance VF : Lb prog 172 := Zb func172
instance xJ : Lb prog 179 := Zb func179
instance yJ : Lb prog 180 := Zb func180
instance ir : Lb prog 181 := Zb func181
instance zJ : Lb prog 183 := Zb func183
instance AJ : Lb prog 184 := Zb func184
instance XF : Lb prog 207 := Zb func207
instance YF : Lb prog 210 := Zb func210
instance Qg : Kc prog 2 false [.int .i64 0] 1 8 := je (z := .int .i64 0) underlying2
instance eb : Kc prog 3 false [.int .i64 0] 1 8 := je (z := .int .i64 0) underlying3
instance Wj : Kc prog 4 false [.bool false] 1 1 := je (z := .bool false) underlying4
instance Qd : Kc prog 9 false [S []] 1 16 := je (z := S []) underlying9
instance zi : Kc prog 22 false [.slice none 0 0] 1 24 := je (z := .slice none 0 0) underlying22
instance Ir : Kc prog 26 false [.slice none 0 0] 1 24 := je (z := .slice none 0 0) underlying26
instance Ai : Kc prog 27 false [.slice none 0 0] 1 24 := je (z := .slice none 0 0) underlying27
instance Jm : Kc prog 29 true [.int .i64 0, .int .i64 0, .int .i64 0, .slice none 0 0, .slice none 0 0, .slice none 0 0, .int .i64 0] 7 104 := je (z := .agg #[.int .i64 0, .int .i64 0, .int .i64 0, .slice none 0 0, .slice none 0 0, .slice none 0 0, .int .i64 0]) underlying29
instance Jr : Kc prog 30 false [.int .i64 0] 1 8 := je (z := .int .i64 0) underlying30
instance Po : Kc prog 34 false [.slice none 0 0] 1 24 := je (z := .slice none 0 0) underlying34
instance wk : Kc prog 35 false [.slice none 0 0] 1 24 := je (z := .slice none 0 0) underlying35
instance xk : Kc prog 37 true [.slice none 0 0, .slice none 0 0] 2 48 := je (z := .agg #[.slice none 0 0, .slice none 0 0]) underlying37
instance On : Kc prog 43 false [.slice none 0 0] 1 24 := je (z := .slice none 0 0) underlying43
instance mg : Kc prog 45 true [.int .i64 0, .int .i64 0] 2 16 := je (z := .agg #[.int .i64 0, .int .i64 0]) underlying45
instance Qi : Kc prog 51 true [.int .i64 0, .int .i64 0, .int .i64 0] 3 24 := je (z := .agg #[.int .i64 0, .int .i64 0, .int .i64 0]) underlying51
instance Sj : Kc prog 54 false [.pointer none] 1 8 := je (z := .pointer none) underlying54
instance Pn : Kc prog 56 true [.int .i64 0, .int .i64 0] 2 16 := je (z := .agg #[.int .i64 0, .int .i64 0]) underlying56
instance kC : Kc prog 59 true [.slice none 0 0, .slice none 0 0, .slice none 0 0] 3 72 := je (z := .agg #[.slice none 0 0, .slice none 0 0, .slice none 0 0]) underlying59
instance dz : Kc prog 64 false [.nilIface] 1 16 := je (z := .nilIface) underlying64
instance rl : Kc prog 65 false [.slice none 0 0] 1 24 := je (z := .slice none 0 0) underlying65
instance ri : Kc prog 66 false [.pointer none] 1 8 := je (z := .pointer none) underlying66
instance yI : Kc prog 67 false [.nilFunc] 1 8 := je (z := .nilFunc) underlying67
instance zI : Kc prog 69 true [.pointer none, .nilIface, .slice none 0 0, .pointer none, .int .i64 0, .int .i64 0, .int .i64 0, .slice none 0 0, .nilFunc] 9 112 := je (z := .agg #[.pointer none, .nilIface, .slice none 0 0, .pointer none, .int .i64 0, .int .i64 0, .int .i64 0, .slice none 0 0, .nilFunc]) underlying69
instance ez : Kc prog 70 false [.slice none 0 0] 1 24 := je (z := .slice none 0 0) underlying70
instance Ug : Kc prog 74 true [S [], S []] 2 32 := je (z := .agg #[S [], S []]) underlying74
instance Xl : Kc prog 76 false [.slice none 0 0] 1 24 := je (z := .slice none 0 0) underlying76
instance dM : Kc prog 81 false [.pointer none] 1 8 := je (z := .pointer none) underlying81
instance AI : Kc prog 83 true [.slice none 0 0, .int .i64 0, .int .i64 0] 3 40 := je (z := .agg #[.slice none 0 0, .int .i64 0, .int .i64 0]) underlying83
instance Db : Kc prog 87 true [.int .i64 0, S []] 2 24 := je (z := .agg #[.int .i64 0, S []]) underlying87
instance Kr : Kc prog 88 false [.slice none 0 0] 1 24 := je (z := .slice none 0 0) underlying88
instance fz : Kc prog 89 false [.slice none 0 0] 1 24 := je (z := .slice none 0 0) underlying89
instance vg : Kc prog 91 true [.int .i64 0, S [], .int .i64 0, S [], .int .i64 0, S [], .int .i64 0, .slice none 0 0, .slice none 0 0] 9 128 := je (z := .agg #[.int .i64 0, S [], .int .i64 0, S [], .int .i64 0, S [], .int .i64 0, .slice none 0 0, .slice none 0 0]) underlying91
instance Yl : Kc prog 94 false [.pointer none] 1 8 := je (z := .pointer none) underlying94
instance aj : Kc prog 95 false [.map none] 1 8 := je (z := .map none) underlying95
instance Qn : Kc prog 96 false [.map none] 1 8 := je (z := .map none) underlying96
instance BI : Kc prog 98 true [.map none, .map none, .map none] 3 24 := je (z := .agg #[.map none, .map none, .map none]) underlying98
instance Bi : Kc prog 99 false [.pointer none] 1 8 := je (z := .pointer none) underlying99
instance vk : Kc prog 101 false [.slice none 0 0] 1 24 := je (z := .slice none 0 0) underlying101
instance Lh : Kc prog 103 true [.int .i64 0, .int .i64 0, .slice none 0 0, .int .i64 0, .int .i64 0, .slice none 0 0] 6 80 := je (z := .agg #[.int .i64 0, .int .i64 0, .slice none 0 0, .int .i64 0, .int .i64 0, .slice none 0 0]) underlying103
instance dv : Kc prog 105 false [.pointer none] 1 8 := je (z := .pointer none) underlying105
instance XH : Kc prog 107 true [.pointer none] 1 8 := je (z := .agg #[.pointer none]) underlying107
instance Ki : Kc prog 111 false [.slice none 0 0] 1 24 := je (z := .slice none 0 0) underlying111
instance Jo : Kc prog 112 false [.pointer none] 1 8 := je (z := .pointer none) underlying112
instance YH : Kc prog 114 true [.int .i64 0, .pointer none, .slice none 0 0, .pointer none] 4 48 := je (z := .agg #[.int .i64 0, .pointer none, .slice none 0 0, .pointer none]) underlying114
instance mj : Kc prog 117 true [.int .i64 0, .int .i64 0, .int .i64 0] 3 24 := je (z := .agg #[.int .i64 0, .int .i64 0, .int .i64 0]) underlying117
instance ei : Kc prog 120 true [.int .i64 0, .int .i64 0, .int .i64 0] 3 24 := je (z := .agg #[.int .i64 0, .int .i64 0, .int .i64 0]) underlying120
instance zj : Kc prog 133 true [.int .i64 0, S [], .int .i64 0, .int .i64 0] 4 40 := je (z := .agg #[.int .i64 0, S [], .int .i64 0, .int .i64 0]) underlying133
instance ZH : Kc prog 149 true [.int .i64 0] 1 8 := je (z := .agg #[.int .i64 0]) underlying149
instance Ky : Kc prog 150 false [.nilFunc] 1 8 := je (z := .nilFunc) underlying150
instance Ko : Kc prog 155 false [.slice none 0 0] 1 24 := je (z := .slice none 0 0) underlying155
instance aI : Kc prog 157 true [.pointer none, .int .i64 0, .int .i64 0, .slice none 0 0, .int .i64 0, .int .i64 0, .slice none 0 0, .slice none 0 0] 8 112 := je (z := .agg #[.pointer none, .int .i64 0, .int .i64 0, .slice none 0 0, .int .i64 0, .int .i64 0, .slice none 0 0, .slice none 0 0]) underlying157
instance nj : Kc prog 159 true [S [], .int .i64 0, S []] 3 40 := je (z := .agg #[S [], .int .i64 0, S []]) underlying159
instance Ly : Kc prog 164 false [.pointer none] 1 8 := je (z := .pointer none) underlying164
instance My : Kc prog 168 false [.map none] 1 8 := je (z := .map none) underlying168
instance Dm : Kc prog 169 false [.slice none 0 0] 1 24 := je (z := .slice none 0 0) underlying169
instance Aj : Kc prog 171 true [.slice none 0 0, .slice none 0 0] 2 48 := je (z := .agg #[.slice none 0 0, .slice none 0 0]) underlying171
instance bI : Kc prog 173 true [.pointer none, .pointer none, .map none, .slice none 0 0, .slice none 0 0, .slice none 0 0, .int .i64 0] 7 104 := je (z := .agg #[.pointer none, .pointer none, .map none, .slice none 0 0, .slice none 0 0, .slice none 0 0, .int .i64 0]) underlying173
instance cI : Kc prog 181 true [.slice none 0 0, .int .i64 0, .int .i64 0, .int .i64 0] 4 48 := je (z := .agg #[.slice none 0 0, .int .i64 0, .int .i64 0, .int .i64 0]) underlying181
instance Li : Kc prog 188 false [.slice none 0 0] 1 24 := je (z := .slice none 0 0) underlying188
instance Jg : Kc prog 191 false [.slice none 0 0] 1 24 := je (z := .slice none 0 0) underlying191
instance Zc : Kc prog 193 true [.int .i64 0, .int .i64 0, S [], .slice none 0 0] 4 56 := je (z := .agg #[.int .i64 0, .int .i64 0, S [], .slice none 0 0]) underlying193
instance yi : Kc prog 195 true [.int .i64 0, S [], .int .i64 0, .int .i64 0, S [], .slice none 0 0, .slice none 0 0, .slice none 0 0] 8 128 := je (z := .agg #[.int .i64 0, S [], .int .i64 0, .int .i64 0, S [], .slice none 0 0, .slice none 0 0, .slice none 0 0]) underlying195
instance ev : Kc prog 200 false [.pointer none] 1 8 := je (z := .pointer none) underlying200
instance zr : Kc prog 205 true [.slice none 0 0, .slice none 0 0, .slice none 0 0] 3 72 := je (z := .agg #[.slice none 0 0, .slice none 0 0, .slice none 0 0]) underlying205
instance Ar : Kc prog 208 true [S [], S [], S []] 3 48 := je (z := .agg #[S [], S [], S []]) underlying208
instance dI : Kc prog 209 false [.pointer none] 1 8 := je (z := .pointer none) underlying209
instance Em : Kc prog 210 true [.slice none 0 0, .pointer none] 2 32 := je (z := .agg #[.slice none 0 0, .pointer none]) underlying210
instance eI : Kc prog 237 true [.slice none 0 0, .map none] 2 32 := je (z := .agg #[.slice none 0 0, .map none]) underlying237
instance il : Kc prog 257 false [.pointer none] 1 8 := je (z := .pointer none) underlying257
instance fj : Kc prog 258 false [.map none] 1 8 := je (z := .map none) underlying258
instance ik : Kc prog 259 false [.slice none 0 0] 1 24 := je (z := .slice none 0 0) underlying259
instance fI : Kc prog 261 true [.pointer none, .pointer none, .slice none 0 0] 3 40 := je (z := .agg #[.pointer none, .pointer none, .slice none 0 0]) underlying261
instance Jn : Kc prog 274 true [.map none, .bool false] 2 16 := je (z := .agg #[.map none, .bool false]) underlying274
theorem CI : prog.eqGuardType prog.depth 87 = false := by kernel_rfl
theorem DI : prog.stoodInHeld 87 = false := by kernel_rfl
instance ZF : jd prog 103 0 0 := nd underlying103 rfl rfl rfl eb rfl
instance Hu : jd prog 103 1 1 := nd underlying103 rfl rfl rfl eb rfl
instance mB : jd prog 103 2 2 := nd underlying103 rfl rfl rfl Ai rfl
instance BJ : jd prog 103 3 3 := nd underlying103 rfl rfl rfl eb rfl
instance CJ : jd prog 103 4 4 := nd underlying103 rfl rfl rfl eb rfl
instance nB : jd prog 103 5 5 := nd underlying103 rfl rfl rfl vk rfl
instance aG : jd prog 107 0 0 := nd underlying107 rfl rfl rfl Sj rfl
instance bG : jd prog 114 0 0 := nd underlying114 rfl rfl rfl eb rfl
instance DJ : jd prog 114 1 1 := nd underlying114 rfl rfl rfl ri rfl
instance oB : jd prog 114 2 2 := nd underlying114 rfl rfl rfl Ki rfl
instance EJ : jd prog 114 3 3 := nd underlying114 rfl rfl rfl Jo rfl
instance cG : jd prog 117 0 0 := nd underlying117 rfl rfl rfl eb rfl
instance Px : jd prog 117 1 1 := nd underlying117 rfl rfl rfl eb rfl
instance FJ : jd prog 117 2 2 := nd underlying117 rfl rfl rfl eb rfl
instance dG : jd prog 120 0 0 := nd underlying120 rfl rfl rfl eb rfl
instance Iu : jd prog 120 1 1 := nd underlying120 rfl rfl rfl eb rfl
instance GJ : jd prog 120 2 2 := nd underlying120 rfl rfl rfl Qg rfl
instance HJ : jd prog 133 0 0 := nd underlying133 rfl rfl rfl eb rfl
instance IJ : jd prog 133 1 1 := nd underlying133 rfl rfl rfl Qd rfl
instance JJ : jd prog 133 2 2 := nd underlying133 rfl rfl rfl Qg rfl
instance KJ : jd prog 133 3 3 := nd underlying133 rfl rfl rfl eb rfl
instance LJ : jd prog 149 0 0 := nd underlying149 rfl rfl rfl eb rfl
instance MJ : jd prog 157 0 0 := nd underlying157 rfl rfl rfl Yl rfl
instance NJ : jd prog 157 1 1 := nd underlying157 rfl rfl rfl Lh rfl
instance OJ : jd prog 157 2 7 := nd underlying157 rfl rfl rfl Ko rfl
instance PJ : jd prog 159 0 0 := nd underlying159 rfl rfl rfl Qd rfl
instance QJ : jd prog 159 1 1 := nd underlying159 rfl rfl rfl Db rfl
instance RJ : jd prog 171 0 0 := nd underlying171 rfl rfl rfl Ai rfl
instance SJ : jd prog 171 1 1 := nd underlying171 rfl rfl rfl Dm rfl
instance TJ : jd prog 173 0 0 := nd underlying173 rfl rfl rfl dv rfl
instance UJ : jd prog 173 1 1 := nd underlying173 rfl rfl rfl Ly rfl
instance VJ : jd prog 173 2 2 := nd underlying173 rfl rfl rfl My rfl
instance WJ : jd prog 173 3 3 := nd underlying173 rfl rfl rfl Ai rfl
instance XJ : jd prog 173 4 4 := nd underlying173 rfl rfl rfl Aj rfl
instance YJ : jd prog 173 5 6 := nd underlying173 rfl rfl rfl Jr rfl
instance eG : jd prog 181 0 0 := nd underlying181 rfl rfl rfl zi rfl
instance ZJ : jd prog 181 1 1 := nd underlying181 rfl rfl rfl eb rfl
instance fG : jd prog 181 2 2 := nd underlying181 rfl rfl rfl eb rfl
instance aK : jd prog 181 3 3 := nd underlying181 rfl rfl rfl eb rfl
instance bK : jd prog 193 0 0 := nd underlying193 rfl rfl rfl eb rfl
instance cK : jd prog 193 1 1 := nd underlying193 rfl rfl rfl Qg rfl
instance dK : jd prog 193 2 2 := nd underlying193 rfl rfl rfl Qd rfl
instance eK : jd prog 193 3 3 := nd underlying193 rfl rfl rfl Jg rfl
instance fK : jd prog 195 0 0 := nd underlying195 rfl rfl rfl eb rfl
instance gK : jd prog 195 1 1 := nd underlying195 rfl rfl rfl Qd rfl
instance hK : jd prog 195 2 2 := nd underlying195 rfl rfl rfl Zc rfl
instance iK : jd prog 195 3 6 := nd underlying195 rfl rfl rfl fz rfl
instance jK : jd prog 205 0 0 := nd underlying205 rfl rfl rfl Li rfl
instance kK : jd prog 205 1 1 := nd underlying205 rfl rfl rfl Li rfl
instance lK : jd prog 205 2 2 := nd underlying205 rfl rfl rfl Li rfl
instance mK : jd prog 208 1 1 := nd underlying208 rfl rfl rfl Qd rfl
instance nK : jd prog 208 2 2 := nd underlying208 rfl rfl rfl Qd rfl
instance oK : jd prog 210 0 0 := nd underlying210 rfl rfl rfl Li rfl
instance pK : jd prog 210 1 1 := nd underlying210 rfl rfl rfl dI rfl
instance qK : jd prog 237 1 1 := nd underlying237 rfl rfl rfl Qn rfl
instance rK : jd prog 261 0 0 := nd underlying261 rfl rfl rfl ev rfl
instance sK : jd prog 261 1 1 := nd underlying261 rfl rfl rfl Bi rfl
instance tK : jd prog 261 2 2 := nd underlying261 rfl rfl rfl ik rfl
instance uK : jd prog 274 0 0 := nd underlying274 rfl rfl rfl aj rfl
instance vK : jd prog 274 1 1 := nd underlying274 rfl rfl rfl Wj rfl
instance yL : jd prog 29 0 0 := nd underlying29 rfl rfl rfl eb rfl
instance zL : jd prog 29 3 3 := nd underlying29 rfl rfl rfl zi rfl
instance qH : jd prog 37 0 0 := nd underlying37 rfl rfl rfl Po rfl
instance rH : jd prog 37 1 1 := nd underlying37 rfl rfl rfl wk rfl
instance AL : jd prog 45 0 0 := nd underlying45 rfl rfl rfl Jr rfl
instance BL : jd prog 51 0 0 := nd underlying51 rfl rfl rfl Jr rfl
instance CL : jd prog 56 0 0 := nd underlying56 rfl rfl rfl eb rfl
instance DL : jd prog 56 1 1 := nd underlying56 rfl rfl rfl eb rfl
instance EL : jd prog 59 0 0 := nd underlying59 rfl rfl rfl Ir rfl
instance FL : jd prog 59 1 1 := nd underlying59 rfl rfl rfl Ai rfl
instance GL : jd prog 59 2 2 := nd underlying59 rfl rfl rfl Ir rfl
instance sH : jd prog 69 0 0 := nd underlying69 rfl rfl rfl Sj rfl
instance tH : jd prog 69 1 1 := nd underlying69 rfl rfl rfl dz rfl
instance uH : jd prog 69 2 2 := nd underlying69 rfl rfl rfl rl rfl
instance pr : jd prog 69 3 3 := nd underlying69 rfl rfl rfl ri rfl
instance vH : jd prog 69 4 4 := nd underlying69 rfl rfl rfl eb rfl
instance HL : jd prog 69 5 5 := nd underlying69 rfl rfl rfl eb rfl
instance IL : jd prog 69 6 6 := nd underlying69 rfl rfl rfl eb rfl
instance JL : jd prog 69 7 7 := nd underlying69 rfl rfl rfl zi rfl
instance KL : jd prog 69 8 8 := nd underlying69 rfl rfl rfl yI rfl
instance LL : jd prog 74 0 0 := nd underlying74 rfl rfl rfl Qd rfl
instance ML : jd prog 74 1 1 := nd underlying74 rfl rfl rfl Qd rfl
instance NL : jd prog 83 0 0 := nd underlying83 rfl rfl rfl Xl rfl
instance OL : jd prog 83 2 2 := nd underlying83 rfl rfl rfl eb rfl
instance PL : jd prog 87 0 0 := nd underlying87 rfl rfl rfl eb rfl
instance QL : jd prog 87 1 1 := nd underlying87 rfl rfl rfl Qd rfl
instance wH : jd prog 91 0 0 := nd underlying91 rfl rfl rfl eb rfl
instance RL : jd prog 91 1 1 := nd underlying91 rfl rfl rfl Qd rfl
instance SL : jd prog 91 2 2 := nd underlying91 rfl rfl rfl Db rfl
instance TL : jd prog 91 3 4 := nd underlying91 rfl rfl rfl Db rfl
instance UL : jd prog 91 4 6 := nd underlying91 rfl rfl rfl eb rfl
instance VL : jd prog 91 5 7 := nd underlying91 rfl rfl rfl Kr rfl
instance WL : jd prog 91 6 8 := nd underlying91 rfl rfl rfl fz rfl
instance XL : jd prog 98 0 0 := nd underlying98 rfl rfl rfl aj rfl
instance YL : jd prog 98 1 1 := nd underlying98 rfl rfl rfl aj rfl
instance ZL : jd prog 98 2 2 := nd underlying98 rfl rfl rfl Qn rfl
theorem gI : eh prog 103 #[(0, 1), (1, 1), (2, 1), (3, 1), (4, 1), (5, 1)]:= rh underlying103 (fun _ => by kernel_rfl)
theorem hI : eh prog 107 #[(0, 1)]:= rh underlying107 (fun _ => by kernel_rfl)
theorem iI : eh prog 114 #[(0, 1), (1, 1), (2, 1), (3, 1)]:= rh underlying114 (fun _ => by kernel_rfl)
theorem aC : eh prog 117 #[(0, 1), (1, 1), (2, 1)]:= rh underlying117 (fun _ => by kernel_rfl)
theorem jI : eh prog 120 #[(0, 1), (1, 1), (2, 1)]:= rh underlying120 (fun _ => by kernel_rfl)
theorem kI : eh prog 133 #[(0, 1), (1, 1), (2, 1), (3, 1)]:= rh underlying133 (fun _ => by kernel_rfl)
theorem lI : eh prog 149 #[(0, 1)]:= rh underlying149 (fun _ => by kernel_rfl)
theorem mI : eh prog 157 #[(0, 1), (1, 6), (7, 1)]:= rh underlying157 (fun _ => by kernel_rfl)
theorem nI : eh prog 159 #[(0, 1), (1, 2)]:= rh underlying159 (fun _ => by kernel_rfl)
theorem fv : eh prog 171 #[(0, 1), (1, 1)]:= rh underlying171 (fun _ => by kernel_rfl)
theorem oI : eh prog 173 #[(0, 1), (1, 1), (2, 1), (3, 1), (4, 2), (6, 1)]:= rh underlying173 (fun _ => by kernel_rfl)
theorem pI : eh prog 181 #[(0, 1), (1, 1), (2, 1), (3, 1)]:= rh underlying181 (fun _ => by kernel_rfl)
theorem jl : eh prog 193 #[(0, 1), (1, 1), (2, 1), (3, 1)]:= rh underlying193 (fun _ => by kernel_rfl)
theorem lq : eh prog 195 #[(0, 1), (1, 1), (2, 4), (6, 1), (7, 1)]:= rh underlying195 (fun _ => by kernel_rfl)
theorem qI : eh prog 208 #[(0, 1), (1, 1), (2, 1)]:= rh underlying208 (fun _ => by kernel_rfl)
theorem bC : eh prog 210 #[(0, 1), (1, 1)]:= rh underlying210 (fun _ => by kernel_rfl)
theorem rI : eh prog 237 #[(0, 1), (1, 1)]:= rh underlying237 (fun _ => by kernel_rfl)
theorem sI : eh prog 261 #[(0, 1), (1, 1), (2, 1)]:= rh underlying261 (fun _ => by kernel_rfl)
theorem Br : eh prog 274 #[(0, 1), (1, 1)]:= rh underlying274 (fun _ => by kernel_rfl)
theorem EI : eh prog 29 #[(0, 1), (1, 1), (2, 1), (3, 1), (4, 1), (5, 1), (6, 1)]:= rh underlying29 (fun _ => by kernel_rfl)
theorem Lr : eh prog 45 #[(0, 1), (1, 1)]:= rh underlying45 (fun _ => by kernel_rfl)
theorem gz : eh prog 51 #[(0, 1), (1, 1), (2, 1)]:= rh underlying51 (fun _ => by kernel_rfl)
theorem FI : eh prog 56 #[(0, 1), (1, 1)]:= rh underlying56 (fun _ => by kernel_rfl)
theorem lC : eh prog 59 #[(0, 1), (1, 1), (2, 1)]:= rh underlying59 (fun _ => by kernel_rfl)
theorem GI : eh prog 69 #[(0, 1), (1, 1), (2, 1), (3, 1), (4, 1), (5, 1), (6, 1), (7, 1), (8, 1)]:= rh underlying69 (fun _ => by kernel_rfl)
theorem fi : eh prog 74 #[(0, 1), (1, 1)]:= rh underlying74 (fun _ => by kernel_rfl)
theorem HI : eh prog 83 #[(0, 1), (1, 1), (2, 1)]:= rh underlying83 (fun _ => by kernel_rfl)
theorem oq : eh prog 87 #[(0, 1), (1, 1)]:= rh underlying87 (fun _ => by kernel_rfl)
theorem hz : eh prog 91 #[(0, 1), (1, 1), (2, 2), (4, 2), (6, 1), (7, 1), (8, 1)]:= rh underlying91 (fun _ => by kernel_rfl)
theorem II : eh prog 98 #[(0, 1), (1, 1), (2, 1)]:= rh underlying98 (fun _ => by kernel_rfl)
theorem cC : ∀ w, (zeroValue 171).run prog w = .ok (.agg #[.slice none 0 0, .slice none 0 0]) w := vr (by kernel_rfl)
theorem dC : ∀ w, (zeroValue 205).run prog w = .ok (.agg #[.slice none 0 0, .slice none 0 0, .slice none 0 0]) w := vr (by kernel_rfl)
theorem So : ∀ w, (zeroValue 3).run prog w = .ok (.int .i64 0) w := vr (by kernel_rfl)
theorem JI : ∀ w, (zeroValue 87).run prog w = .ok (.agg #[.int .i64 0, S []]) w := vr (by kernel_rfl)
theorem Rn : ∀ w, (zeroValue 99).run prog w = .ok (.pointer none) w := vr (by kernel_rfl)
end Go.Proofs.YthdpoglpdpfnbaaGreatDoor
namespace Go.Proofs
open Go.Shelf
def Tryz.GC : Go.Shelf.Ren := ⟨fun | 174 => 54 | 247 => 90 | 245 => 91 | 287 => 120 | 279 => 121 | 280 => 122 | 281 => 123 | 282 => 124 | 321 => 142 | 322 => 143 | 316 => 144 | 171 => 146 | 205 => 145 | 243 => 155 | 246 => 163 | 283 => 173 | 284 => 174 | 285 => 175 | 286 => 176 | 129 => 186 | 317 => 185 | 318 => 187 | 319 => 188 | 320 => 189 | 337 => 190 | 338 => 191 | n => n, fun | 9 => 9 | 3 => 3 | 2 => 2 | 75 => 137 | 85 => 138 | 4 => 4 | 167 => 226 | 5 => 5 | 53 => 227 | 175 => 228 | 46 => 230 | 168 => 231 | 37 => 248 | 0 => 0 | 210 => 250 | 21 => 21 | 127 => 267 | 145 => 270 | 143 => 268 | 171 => 285 | 173 => 288 | 212 => 299 | 51 => 290 | 20 => 20 | 213 => 300 | 232 => 303 | 233 => 304 | 80 => 142 | n => n, fun | 15 => 0 | 16 => 1 | 17 => 3 | 18 => 4 | 19 => 5 | n => n⟩
theorem Tryz.RE : Go.Proofs.LaysC.n174 Tryz.prog Tryz.GC := {
  mixed := by kernel_rfl
  f129 := Tryz.func186.trans (congrArg some (by kernel_rfl))
  f171 := Tryz.func146.trans (congrArg some (by kernel_rfl))
  f174 := Tryz.func54.trans (congrArg some (by kernel_rfl))
  f205 := Tryz.func145.trans (congrArg some (by kernel_rfl))
  f243 := Tryz.func155.trans (congrArg some (by kernel_rfl))
  f245 := Tryz.func91.trans (congrArg some (by kernel_rfl))
  f246 := Tryz.func163.trans (congrArg some (by kernel_rfl))
  f247 := Tryz.func90.trans (congrArg some (by kernel_rfl))
  f279 := Tryz.func121.trans (congrArg some (by kernel_rfl))
  f280 := Tryz.func122.trans (congrArg some (by kernel_rfl))
  f281 := Tryz.func123.trans (congrArg some (by kernel_rfl))
  f282 := Tryz.func124.trans (congrArg some (by kernel_rfl))
  f283 := Tryz.func173.trans (congrArg some (by kernel_rfl))
  f284 := Tryz.func174.trans (congrArg some (by kernel_rfl))
  f285 := Tryz.func175.trans (congrArg some (by kernel_rfl))
  f286 := Tryz.func176.trans (congrArg some (by kernel_rfl))
  f287 := Tryz.func120.trans (congrArg some (by kernel_rfl))
  f316 := Tryz.func144.trans (congrArg some (by kernel_rfl))
  f317 := Tryz.func185.trans (congrArg some (by kernel_rfl))
  f318 := Tryz.func187.trans (congrArg some (by kernel_rfl))
  f319 := Tryz.func188.trans (congrArg some (by kernel_rfl))
  f320 := Tryz.func189.trans (congrArg some (by kernel_rfl))
  f321 := Tryz.func142.trans (congrArg some (by kernel_rfl))
  f322 := Tryz.func143.trans (congrArg some (by kernel_rfl))
  f337 := Tryz.func190.trans (congrArg some (by kernel_rfl))
  f338 := Tryz.func191.trans (congrArg some (by kernel_rfl))
  t0 := Tryz.underlying0
  a0 := Tryz.isAgg0
  z0 := Tryz.sizeOf0
  v0 := Tryz.zeroValue0
  t2 := Tryz.underlying2
  a2 := Tryz.isAgg2
  z2 := Tryz.sizeOf2
  v2 := Tryz.zeroValue2
  t3 := Tryz.underlying3
  a3 := Tryz.isAgg3
  z3 := Tryz.sizeOf3
  v3 := Tryz.zeroValue3
  t4 := Tryz.underlying4
  a4 := Tryz.isAgg4
  z4 := Tryz.sizeOf4
  v4 := Tryz.zeroValue4
  t5 := Tryz.underlying5
  a5 := Tryz.isAgg5
  z5 := Tryz.sizeOf5
  v5 := Tryz.zeroValue5
  t9 := Tryz.underlying9
  a9 := Tryz.isAgg9
  z9 := Tryz.sizeOf9
  v9 := Tryz.zeroValue9
  t20 := Tryz.underlying20
  a20 := Tryz.isAgg20
  z20 := Tryz.sizeOf20
  v20 := Tryz.zeroValue20
  t21 := Tryz.underlying21
  a21 := Tryz.isAgg21
  z21 := Tryz.sizeOf21
  v21 := Tryz.zeroValue21
  t37 := Tryz.underlying248
  a37 := Tryz.isAgg248
  z37 := Tryz.sizeOf248
  v37 := Tryz.zeroValue248
  t46 := Tryz.underlying230
  a46 := Tryz.isAgg230
  z46 := Tryz.sizeOf230
  v46 := Tryz.zeroValue230
  t51 := Tryz.underlying290
  a51 := Tryz.isAgg290
  z51 := Tryz.sizeOf290
  v51 := Tryz.zeroValue290
  t53 := Tryz.underlying227
  a53 := Tryz.isAgg227
  z53 := Tryz.sizeOf227
  v53 := Tryz.zeroValue227
  t75 := Tryz.underlying137
  a75 := Tryz.isAgg137
  z75 := Tryz.sizeOf137
  v75 := Tryz.zeroValue137
  t85 := Tryz.underlying138
  a85 := Tryz.isAgg138
  z85 := Tryz.sizeOf138
  v85 := Tryz.zeroValue138
  t127 := Tryz.underlying267
  a127 := Tryz.isAgg267
  z127 := Tryz.sizeOf267
  v127 := Tryz.zeroValue267
  t143 := Tryz.underlying268
  a143 := Tryz.isAgg268
  z143 := Tryz.sizeOf268
  v143 := Tryz.zeroValue268
  t145 := Tryz.underlying270
  a145 := Tryz.isAgg270
  z145 := Tryz.sizeOf270
  v145 := Tryz.zeroValue270
  t167 := Tryz.underlying226
  a167 := Tryz.isAgg226
  z167 := Tryz.sizeOf226
  v167 := Tryz.zeroValue226
  t168 := Tryz.underlying231
  a168 := Tryz.isAgg231
  z168 := Tryz.sizeOf231
  v168 := Tryz.zeroValue231
  t171 := Tryz.underlying285
  a171 := Tryz.isAgg285
  z171 := Tryz.sizeOf285
  v171 := Tryz.zeroValue285
  t173 := Tryz.underlying288
  a173 := Tryz.isAgg288
  z173 := Tryz.sizeOf288
  v173 := Tryz.zeroValue288
  t175 := Tryz.underlying228
  a175 := Tryz.isAgg228
  z175 := Tryz.sizeOf228
  v175 := Tryz.zeroValue228
  t210 := Tryz.underlying250
  a210 := Tryz.isAgg250
  z210 := Tryz.sizeOf250
  v210 := Tryz.zeroValue250
  t212 := Tryz.underlying299
  a212 := Tryz.isAgg299
  z212 := Tryz.sizeOf299
  v212 := Tryz.zeroValue299
  t213 := Tryz.underlying300
  a213 := Tryz.isAgg300
  z213 := Tryz.sizeOf300
  t232 := Tryz.underlying303
  a232 := Tryz.isAgg303
  z232 := Tryz.sizeOf303
  v232 := Tryz.zeroValue303
  t233 := Tryz.underlying304
  a233 := Tryz.isAgg304
  z233 := Tryz.sizeOf304
  v233 := Tryz.zeroValue304
  g15 := by kernel_rfl
  g16 := by kernel_rfl
  g17 := by kernel_rfl
  g18 := by kernel_rfl
  g19 := by kernel_rfl
  t80 := Tryz.underlying142
  a80 := Tryz.isAgg142
  z80 := Tryz.sizeOf142
  v80 := Tryz.zeroValue142
  i0 := by kernel_rfl
  i2 := by kernel_rfl
  i3 := by kernel_rfl
  i4 := by kernel_rfl
  i5 := by kernel_rfl
  i9 := by kernel_rfl
  i20 := by kernel_rfl
  i21 := by kernel_rfl
  i37 := by kernel_rfl
  i46 := by kernel_rfl
  i51 := by kernel_rfl
  i53 := by kernel_rfl
  i75 := by kernel_rfl
  i80 := by kernel_rfl
  i85 := by kernel_rfl
  i127 := by kernel_rfl
  i143 := by kernel_rfl
  i145 := by kernel_rfl
  i167 := by kernel_rfl
  i168 := by kernel_rfl
  i171 := by kernel_rfl
  i173 := by kernel_rfl
  i175 := by kernel_rfl
  i210 := by kernel_rfl
  i212 := by kernel_rfl
  i232 := by kernel_rfl
  i233 := by kernel_rfl
  m15 := by kernel_rfl
  m16 := by kernel_rfl
  m17 := by kernel_rfl
  m18 := by kernel_rfl
  m19 := by kernel_rfl
  c0 := by kernel_rfl
  c2 := by kernel_rfl
  c3 := by kernel_rfl
  c4 := by kernel_rfl
  c5 := by kernel_rfl
  c9 := by kernel_rfl
  c20 := by kernel_rfl
  c21 := by kernel_rfl
  c37 := by kernel_rfl
  c46 := by kernel_rfl
  c51 := by kernel_rfl
  c53 := by kernel_rfl
  c75 := by kernel_rfl
  c80 := by kernel_rfl
  c85 := by kernel_rfl
  c127 := by kernel_rfl
  c143 := by kernel_rfl
  c145 := by kernel_rfl
  c167 := by kernel_rfl
  c168 := by kernel_rfl
  c171 := by kernel_rfl
  c173 := by kernel_rfl
  c175 := by kernel_rfl
  c210 := by kernel_rfl
  c212 := by kernel_rfl
  c213 := by kernel_rfl
  c232 := by kernel_rfl
  c233 := by kernel_rfl }
open Go.RowKit in
theorem Tryz.strconv_ParseInt_10_at64_ok (s : ByteArray) (a : s.size ≤ 9223372036854775806) (v : Int) (h : Lib.parseIntB 64 s.data.toList = .ok v) (w : World) :
    Calls Tryz.prog 54 #[.string s, .int .i64 10, .int .i64 64] w fun e w' => e = .returned (.tuple #[.int .i64 v, .nilIface]) ∧ (w' = w ∨ ∃ t, w' = Lib.bytesWorld w 5 t):= Any.strconv_ParseInt_10_at64_ok Tryz.RE s a v h w
def Tryz.VC : Go.Shelf.Ren := ⟨fun | 144 => 126 | 143 => 147 | 219 => 156 | 217 => 164 | 225 => 165 | 224 => 166 | 267 => 167 | 266 => 177 | 314 => 178 | n => n, fun | 9 => 9 | 4 => 4 | 3 => 3 | 5 => 5 | 46 => 230 | 146 => 291 | 51 => 290 | n => n, fun | 1 => 2 | n => n⟩
theorem Tryz.gG : Go.Proofs.Lays.n144 Tryz.prog Tryz.VC := {
  mixed := by kernel_rfl
  f143 := Tryz.func147.trans (congrArg some (by kernel_rfl))
  f144 := Tryz.func126.trans (congrArg some (by kernel_rfl))
  f217 := Tryz.func164.trans (congrArg some (by kernel_rfl))
  f219 := Tryz.func156.trans (congrArg some (by kernel_rfl))
  f224 := Tryz.func166.trans (congrArg some (by kernel_rfl))
  f225 := Tryz.func165.trans (congrArg some (by kernel_rfl))
  f266 := Tryz.func177.trans (congrArg some (by kernel_rfl))
  f267 := Tryz.func167.trans (congrArg some (by kernel_rfl))
  f314 := Tryz.func178.trans (congrArg some (by kernel_rfl))
  t3 := Tryz.underlying3
  a3 := Tryz.isAgg3
  z3 := Tryz.sizeOf3
  v3 := Tryz.zeroValue3
  t4 := Tryz.underlying4
  a4 := Tryz.isAgg4
  z4 := Tryz.sizeOf4
  v4 := Tryz.zeroValue4
  t5 := Tryz.underlying5
  a5 := Tryz.isAgg5
  z5 := Tryz.sizeOf5
  v5 := Tryz.zeroValue5
  t9 := Tryz.underlying9
  a9 := Tryz.isAgg9
  z9 := Tryz.sizeOf9
  v9 := Tryz.zeroValue9
  t46 := Tryz.underlying230
  a46 := Tryz.isAgg230
  z46 := Tryz.sizeOf230
  v46 := Tryz.zeroValue230
  t51 := Tryz.underlying290
  a51 := Tryz.isAgg290
  z51 := Tryz.sizeOf290
  v51 := Tryz.zeroValue290
  t146 := Tryz.underlying291
  a146 := Tryz.isAgg291
  z146 := Tryz.sizeOf291
  v146 := Tryz.zeroValue291
  g1 := by kernel_rfl }
open Go.RowKit Go.Lib in
theorem Tryz.strings_Contains (s sub : ByteArray) (m : Int) (w : World) (a : s.size < 4294967281) (hm : w.cell? ⟨2, 0, none⟩ = some (.int .i64 m)) :
    Calls Tryz.prog 126 #[.string s, .string sub] w fun e w' => e = .returned (.bool (Lib.contains s.data.toList sub.data.toList)) ∧ w' = w := Any.strings_Contains Tryz.gG s sub m w a hm
def Tryz.WC : Go.Shelf.Ren := ⟨fun | 107 => 116 | 108 => 141 | n => n, fun | 28 => 27 | 3 => 3 | 4 => 4 | 0 => 0 | n => n, fun | n => n⟩
theorem Tryz.pB : Go.Proofs.Lays.n107 Tryz.prog Tryz.WC := {
  mixed := by kernel_rfl
  f107 := Tryz.func116.trans (congrArg some (by kernel_rfl))
  f108 := Tryz.func141.trans (congrArg some (by kernel_rfl))
  t0 := Tryz.underlying0
  a0 := Tryz.isAgg0
  z0 := Tryz.sizeOf0
  v0 := Tryz.zeroValue0
  t3 := Tryz.underlying3
  a3 := Tryz.isAgg3
  z3 := Tryz.sizeOf3
  v3 := Tryz.zeroValue3
  t4 := Tryz.underlying4
  a4 := Tryz.isAgg4
  z4 := Tryz.sizeOf4
  v4 := Tryz.zeroValue4
  t28 := Tryz.underlying27
  a28 := Tryz.isAgg27
  z28 := Tryz.sizeOf27
  v28 := Tryz.zeroValue27 }
open Go.Lib in
theorem Tryz.slices_Contains_int (b off n c : Nat) (a : List Int) (x : Int) (w : World) (d : n ≤ a.length) (f : n ≤ 9223372036854775807) (hc : ∀ j, j < a.length → w.cell? ⟨b, off + j, none⟩ = some (.int .i64 (a.getD j 0))) :
    Calls Tryz.prog 116 #[.slice (some ⟨b, off, none⟩) n c, .int .i64 x] w fun e w' => e = .returned (.bool ((a.take n).contains x)) ∧ w' = w := Any.slices_Contains_int Tryz.pB b off n c a x w d f hc
open Go.Lib in
theorem Tryz.slices_Contains_int_empty (a : Option Addr) (c : Nat) (x : Int) (w : World) :
    Calls Tryz.prog 116 #[.slice a 0 c, .int .i64 x] w fun e w' => e = .returned (.bool false) ∧ w' = w := Any.slices_Contains_int_empty Tryz.pB a c x w
def Tryz.XC : Go.Shelf.Ren := ⟨fun | 110 => 102 | 109 => 134 | n => n, fun | 31 => 188 | 9 => 9 | 4 => 4 | 3 => 3 | 0 => 0 | n => n, fun | n => n⟩
theorem Tryz.qB : Go.Proofs.Lays.n110 Tryz.prog Tryz.XC := {
  mixed := by kernel_rfl
  f109 := Tryz.func134.trans (congrArg some (by kernel_rfl))
  f110 := Tryz.func102.trans (congrArg some (by kernel_rfl))
  t0 := Tryz.underlying0
  a0 := Tryz.isAgg0
  z0 := Tryz.sizeOf0
  v0 := Tryz.zeroValue0
  t3 := Tryz.underlying3
  a3 := Tryz.isAgg3
  z3 := Tryz.sizeOf3
  v3 := Tryz.zeroValue3
  t4 := Tryz.underlying4
  a4 := Tryz.isAgg4
  z4 := Tryz.sizeOf4
  v4 := Tryz.zeroValue4
  t9 := Tryz.underlying9
  a9 := Tryz.isAgg9
  z9 := Tryz.sizeOf9
  v9 := Tryz.zeroValue9
  t31 := Tryz.underlying188
  a31 := Tryz.isAgg188
  z31 := Tryz.sizeOf188
  v31 := Tryz.zeroValue188 }
open Go.Lib in
theorem Tryz.slices_Contains_string (b off n c : Nat) (a : List ByteArray) (x : ByteArray) (w : World) (d : n ≤ a.length) (f : n ≤ 9223372036854775807) (hc : ∀ j, j < a.length → w.cell? ⟨b, off + j, none⟩ = some (.string (a.getD j ByteArray.empty))) :
    Calls Tryz.prog 102 #[.slice (some ⟨b, off, none⟩) n c, .string x] w fun e w' => e = .returned (.bool (Lib.containsS (a.take n) x)) ∧ w' = w := Any.slices_Contains_string Tryz.qB b off n c a x w d f hc
open Go.Lib in
theorem Tryz.slices_Contains_string_empty (a : Option Addr) (c : Nat) (x : ByteArray) (w : World) :
    Calls Tryz.prog 102 #[.slice a 0 c, .string x] w fun e w' => e = .returned (.bool false) ∧ w' = w := Any.slices_Contains_string_empty Tryz.qB a c x w
def Tryz.zC : Go.Shelf.Ren := ⟨fun | 15 => 109 | n => n, fun | 22 => 27 | 3 => 3 | 4 => 4 | n => n, fun | n => n⟩
theorem Tryz.Tw : Go.Proofs.Lays2.n15 Tryz.prog Tryz.zC := {
  mixed := by kernel_rfl
  f15 := Tryz.func109.trans (congrArg some (by kernel_rfl))
  t3 := Tryz.underlying3
  a3 := Tryz.isAgg3
  z3 := Tryz.sizeOf3
  v3 := Tryz.zeroValue3
  t4 := Tryz.underlying4
  a4 := Tryz.isAgg4
  z4 := Tryz.sizeOf4
  v4 := Tryz.zeroValue4
  t22 := Tryz.underlying27
  a22 := Tryz.isAgg27
  z22 := Tryz.sizeOf27
  v22 := Tryz.zeroValue27
  i3 := by kernel_rfl }
open Go.RowKit Go.Lib in
theorem Tryz.slices_Clone_int (b off n c : Nat) (a : List Int) (w : World) (f : n ≤ a.length) (g : n * 8 ≤ 140737488355328) (hc : ∀ j, j < a.length → w.cell? ⟨b, off + j, none⟩ = some (.int .i64 (a.getD j 0))) :
    Calls Tryz.prog 109 #[.slice (some ⟨b, off, none⟩) n c] w fun e w' => ∃ d, e = .returned d ∧ w'.ownsRow w.heap.size 3 1 d n ((a.take n).map (Value.int .i64)) ∧ d ≠ .slice none 0 0 ∧ Below w.heap.size w w' := Any.slices_Clone_int Tryz.Tw b off n c a w f g hc
open Go.RowKit Go.Lib in
theorem Tryz.slices_Clone_int_nil (n c : Nat) (w : World) :
    Calls Tryz.prog 109 #[.slice none n c] w fun e w' => e = .returned (.slice none 0 0) ∧ w' = w := Any.slices_Clone_int_nil Tryz.Tw n c w
open Go.RowKit Go.Lib in
theorem Tryz.slices_Clone_int_zero (a : Addr) (c : Nat) (w : World) :
    Calls Tryz.prog 109 #[.slice (some a) 0 c] w fun e w' => ∃ b, e = .returned b ∧ w'.ownsRow w.heap.size 3 1 b 0 [] ∧ b ≠ .slice none 0 0 ∧ Below w.heap.size w w' := Any.slices_Clone_int_zero Tryz.Tw a c w
def Tryz.tC : Go.Shelf.Ren := ⟨fun | 41 => 110 | n => n, fun | 22 => 169 | 23 => 4 | 4 => 4 | n => n, fun | n => n⟩
theorem Tryz.vz : Go.Proofs.SlLaysE0.n41 Tryz.prog Tryz.tC := {
  mixed := by kernel_rfl
  f41 := ⟨Tryz.f110.name, by decide, Tryz.func110.trans (congrArg some (by kernel_rfl))⟩
  t4 := Tryz.underlying4
  a4 := Tryz.isAgg4
  z4 := Tryz.sizeOf4
  v4 := Tryz.zeroValue4
  t22 := Tryz.underlying169
  a22 := Tryz.isAgg169
  z22 := Tryz.sizeOf169
  v22 := Tryz.zeroValue169 }
open Go.RowKit Go.Lib in
theorem Tryz.vC (i0 : TypeInfo) (z : Value) (size bytes : Nat) (cb : Tryz.prog.info? 4 = some i0) (d : i0.zero = some z) (f : i0.size = size) (g : i0.bytes = bytes) (h : z.cells.size = size) (i : 0 < size) (z23 : ∀ w, (Go.sizeOf 4).run Tryz.prog w = .ok size w) (b off n c : Nat) (news : List Value) (w : World) (k : news.length = n * size) (l : n ≤ maxLen) (m : n * bytes ≤ 140737488355328) (hc : ∀ j u, news[j]? = some u → w.cell? ⟨b, off + j, none⟩ = some u) (o : ∀ u ∈ news, u.oneCell' = true) :
    Calls Tryz.prog 110 #[.slice (some ⟨b, off, none⟩) n c] w fun e w' => ∃ a, e = .returned a ∧ w'.ownsRow w.heap.size 4 size a n news ∧ a ≠ .slice none 0 0 ∧ Below w.heap.size w w' := AnyE.slices_Clone Tryz.vz i0 z size bytes cb d f g h i z23 b off n c news w k l m hc o
open Go.RowKit Go.Lib in
theorem Tryz.sC (n c : Nat) (w : World) :
    Calls Tryz.prog 110 #[.slice none n c] w fun e w' => e = .returned (.slice none 0 0) ∧ w' = w := AnyE.slices_Clone_nil Tryz.vz n c w
end Go.Proofs
namespace Go.Proofs.YthdpoglpdpfnbaaGreatDoor
open Go.wc Go.hd Go.Y Tryz
def ib : M := fun w => ∃ m, w.cell? ⟨2, 0, none⟩ = some (.int .i64 m)
theorem xH {E : M}{w0 w : World}{J : List Fb}{l : List UInt8}{r : Int}(g : Ty l = some r) (b : la E w0 w J) :
    Ab prog 54 [S l, .int .i64 10, .int .i64 64] w (fun v w' => v = .tuple ⟨[.int .i64 r, .nilIface]⟩ ∧ la E w0 w' J):= by
  unfold Ty at g;split at g
  · rename_i c;cases a : Lib.parseIntB 64 l with
    | ok v =>
      rw [a] at g;obtain rfl := Option.some.inj g;refine ⟨(strconv_ParseInt_10_at64_ok ⟨⟨l⟩⟩ c v a w).mono fun e w' he => ?_⟩;obtain ⟨rfl, hw⟩ := he;refine ⟨rfl, ?_⟩;rcases hw with rfl | ⟨t, rfl⟩
      · exact b
      · have h := Lib.bytesWorld_below w 5 t;exact b.grow ⟨h.os, h.tape, h.output, h.size, fun k d _ => h.block k d⟩
    | _ => rw [a] at g; cases g
  · cases g
theorem hG {E : M}{w0 w : World}{J : List Fb}{l sub : List UInt8}{b : Bool}(d : ga ib E) (g : ny l sub = some b) (c : la E w0 w J) :
    Ab prog 126 [S l, S sub] w (fun v w' => v = .bool b ∧ la E w0 w' J):= by
  unfold ny at g;split at g
  · rename_i f;obtain rfl := Option.some.inj g;obtain ⟨m, hm⟩ := d w c.a;refine ⟨(strings_Contains ⟨⟨l⟩⟩ ⟨⟨sub⟩⟩ m w f hm).mono fun e w' he => ?_⟩;obtain ⟨rfl, rfl⟩ := he;exact ⟨rfl, c⟩
  · cases g
end Go.Proofs.YthdpoglpdpfnbaaGreatDoor
namespace Go.Proofs.YthdpoglpdpfnbaaGreatDoor
open Go.wc Go.hd Go.Y Go.RowKit Tryz
section
variable {μ E : M}{w0 w : World}{J rs : List Fb}
def gq (w : World) (v : Value) (vs : List Value) : Prop := (vs = [] ∧ ∃ a c, v = .slice a 0 c) ∨ ∃ b o c, v = .slice (some ⟨b, o, none⟩) vs.length c ∧ vs.length ≤ 9223372036854775807 ∧ ∀ j y, vs[j]? = some y → w.cell? ⟨b, o + j, none⟩ = some y
theorem EA {α : Type}[Ta α]{f : α → Value}(a : ∀ (μ : M) (l : List Value) (x : α), Ta.cs μ l x → l = [f x]) : ∀ {l : List α}{cells : List Value}, ma μ cells l → cells = l.map f
  | [], cells, h => by rw [ma] at h; simp [h]
  | x :: l, cells, h => by
    rw [ma] at h;obtain ⟨cs, t, rfl, b, c⟩ := h;rw [a _ _ _ b, EA a c];rfl
theorem Cp {α : Type}[Ta α]{f : α → Value}(c : ∀ (μ : M) (l : List Value) (x : α), Ta.cs μ l x → l = [f x]){v : Value}{T : TypeId}{l : List α}{cells : List Value}(h : Row w v T 1 l.length cells) (d : ma μ cells l) : gq w v (l.map f):= by
  have e := EA c d;subst e;rcases h.2 with ⟨rfl, b⟩ | ⟨g, o, cap, cur, rfl, i, k, b, n, m⟩
  · exact .inl ⟨by rw [List.length_eq_zero_iff.1 b];rfl, none, 0, rfl⟩
  · refine .inr ⟨g, o, cap, by simp, by simp;exact Nat.le_trans k (Nat.le_trans b (by decide)), fun j y a => ?_⟩;rw [cell_of_row w g (o + j) cur T (0, 0) i];rw [← m, List.getElem?_take] at a;split at a
    · rw [List.getElem?_drop] at a;simpa using a
    · cases a
theorem Lp {α : Type}[Ta α]{f : α → Value}(g : ∀ (μ : M) (l : List Value) (x : α), Ta.cs μ l x → l = [f x]) (i : Ta.sz α = 1){a : Option Addr}{c : Nat}{l : List α}(h : ua μ a c l) (hw : μ w) : gq w (.slice a l.length c) (l.map f):= by
  rcases h.el with rfl | ⟨b, o, rfl, p, k⟩
  · exact .inl ⟨rfl, a, c, rfl⟩
  · refine .inr ⟨b, o, c, by simp, by simp;exact ua.len h, fun j y d => ?_⟩;simp only [List.getElem?_map, Option.map_eq_some_iff] at d;obtain ⟨x, m, rfl⟩ := d;obtain ⟨e, n⟩ := k j x m;rw [g _ _ _ n, i] at e;have := e w hw 0 _ rfl;simpa using this
theorem iz (μ : M) (l : List Value) (x : List UInt8) (h : Ta.cs μ l x) : l = [S x]:= h
theorem Mr (μ : M) (l : List Value) (x : Int) (h : Ta.cs μ l x) : l = [.int .i64 x]:= h
theorem Xv {v : Value}{l : List (List UInt8)}{x : List UInt8}(h : gq w v (l.map S)) : Ab prog 102 [v, S x] w (fun v w' => v = .bool (l.contains x) ∧ w' = w):= by
  rcases h with ⟨f, a, c, rfl⟩ | ⟨b, o, c, rfl, g, hc⟩
  · obtain rfl : l = []:= List.map_eq_nil_iff.1 f;exact ⟨(slices_Contains_string_empty a c ⟨⟨x⟩⟩ w).mono fun e w' he => by
      obtain ⟨rfl, rfl⟩ := he;exact ⟨rfl, rfl⟩⟩
  · refine ⟨(slices_Contains_string b o (l.map S).length c (l.map fun y => ⟨⟨y⟩⟩) ⟨⟨x⟩⟩ w (by simp) g ?_).mono fun e w' he => ?_⟩
    · intro j i;have d : j < l.length := by simpa using i
      rw [hc j (S l[j]) (by simp [d])];simp [List.getElem?_eq_getElem d, S]
    · obtain ⟨rfl, rfl⟩ := he;refine ⟨?_, rfl⟩;congr 1;rw [List.take_of_length_le (by simp), Bool.eq_iff_iff, Lib.containsS_iff, List.contains_iff_mem];constructor
      · intro hm;obtain ⟨y, m, e⟩ := List.mem_map.1 hm;have k : y = x := congrArg (fun b : ByteArray => b.data.toList) e;rwa [← k]
      · exact fun hm => List.mem_map.2 ⟨x, hm, rfl⟩
theorem HC {v : Value}{l : List Int}{x : Int}(h : gq w v (l.map (Value.int .i64))) : Ab prog 116 [v, .int .i64 x] w (fun v w' => v = .bool (l.contains x) ∧ w' = w):= by
  rcases h with ⟨f, a, c, rfl⟩ | ⟨b, o, c, rfl, g, hc⟩
  · obtain rfl : l = []:= List.map_eq_nil_iff.1 f;exact ⟨(slices_Contains_int_empty a c x w).mono fun e w' he => by
      obtain ⟨rfl, rfl⟩ := he;exact ⟨rfl, rfl⟩⟩
  · refine ⟨(slices_Contains_int b o (l.map (Value.int .i64)).length c l x w (by simp) g ?_).mono fun e w' he => ?_⟩
    · intro j d;rw [hc j (.int .i64 l[j]) (by simp [d])];simp [List.getElem?_eq_getElem d]
    · obtain ⟨rfl, rfl⟩ := he;refine ⟨?_, rfl⟩;rw [List.take_of_length_le (by simp)]
theorem Xt {v : Value}{l : List Int}(r : l.length ≤ 65536) (h : gq w v (l.map (Value.int .i64))) (i : la E w0 w rs) :
    Ab prog 109 [v] w (fun m w' => la E w0 w' (.row m 3 1 l.length (l.map (Value.int .i64)):: rs)):= by
  rcases h with ⟨q, a, c, rfl⟩ | ⟨b, o, c, rfl, s, hc⟩
  · obtain rfl : l = []:= List.map_eq_nil_iff.1 q;cases a with
    | none => exact ⟨(slices_Clone_int_nil 0 c w).mono fun e w' he => by
        obtain ⟨rfl, rfl⟩ := he;exact i.Ph 3 1⟩
    | some a => exact ⟨(slices_Clone_int_zero a c w).mono fun e w' he => by
        obtain ⟨m, rfl, g, -, d⟩ := he;obtain ⟨n, f⟩ := Zv g;exact i.newRow ⟨d.os, d.tape, d.output, d.size, fun k f _ => d.block k f⟩ n f⟩
  · refine ⟨(slices_Clone_int b o (l.map (Value.int .i64)).length c l w (by simp) (by simp;omega) ?_).mono fun e w' he => ?_⟩
    · intro j p;rw [hc j (.int .i64 l[j]) (by simp [p])];simp [List.getElem?_eq_getElem p]
    · obtain ⟨m, rfl, g, -, d⟩ := he;rw [List.take_of_length_le (by simp), List.length_map] at g;obtain ⟨n, f⟩ := Zv g;exact i.newRow ⟨d.os, d.tape, d.output, d.size, fun k f _ => d.block k f⟩ n f
theorem Yt {v : Value}{l : List Bool}(C : l.length ≤ 65536) (h : gq w v (l.map Value.bool)) (d : la E w0 w rs) :
    Ab prog 110 [v] w (fun s w' => la E w0 w' (.row s 4 1 l.length (l.map Value.bool):: rs)):= by
  rcases h with ⟨f, a, c, rfl⟩ | ⟨b, o, c, rfl, D, hc⟩
  · obtain rfl : l = []:= List.map_eq_nil_iff.1 f;cases a with
    | none => exact ⟨(sC 0 c w).mono fun e w' he => by
        obtain ⟨rfl, rfl⟩ := he;exact d.Ph 4 1⟩
    | some a =>
      refine enter func110 rfl (frm := [_, _, _, _, _, _, _, _]) rfl ?_;refine Fa ?_;refine Oa ?_;refine wl (Ni xa (ia Sa) ?_);refine Ja ?_;refine oa ?_;refine Fa ?_;refine Fa ?_;refine Oa ?_;refine wl (ph (aa d0) (ia Bb) ?_);refine wl (zF underlying169 (aa d3) (ia wb) ?_);refine Ja ?_;refine oa ?_;refine ll (aa d4) ?_;refine Na ?_;refine oa ?_;refine Fa ?_;refine Oa ?_;refine wl (LG underlying169 Wj d ?_);clear d;intro eg F G d;refine pu (ia fc) ?_;replace d := d.yn (n := 0) (sz := Ta.sz Bool) d0 rfl (by decide) ya;refine wl (ph (aa d0) (ia cc) ?_);refine wl (Qu (α := Bool) (l := []) (ys := []) (news := []) underlying169 Wj rfl (aa d5) (aa d6) d d0 (fun e => absurd rfl e) rfl (show app [] [] = some [] from rfl) (by decide) ?_);clear d;intro v2 H y A d;cases (show _ = y from A);replace d := Sep.Le d ya;refine pu (ia Eb) ?_;refine wl (Ni (aa d7) (ia Sa) ?_);refine Ja ?_;refine oa ?_;refine fb ?_;refine jc rfl d2 ?_;exact d
  · have cb : ∃ i z, prog.info? 4 = some i ∧ i.zero = some z ∧ i.size = 1 ∧ i.bytes = 1 ∧ z.cells.size = 1 := by
      obtain ⟨i, z, f, j, m, p, q⟩ := (Wj).inf;exact ⟨i, z, f, j, p, q, by rw [m];rfl⟩
    obtain ⟨i, z, f, j, m, p, q⟩ := cb;refine ⟨(vC i z 1 1 f j m p q (by decide) (fun w => (Wj).sizeOf) b o (l.map Value.bool).length c (l.map Value.bool) w (by simp) (by simp [maxLen];omega) (by simp;omega) hc (fun u hu => ?_)).mono fun e w' he => ?_⟩
    · obtain ⟨x, -, rfl⟩ := List.mem_map.1 hu;rfl
    · obtain ⟨s, rfl, t, -, g⟩ := he;rw [List.length_map] at t;obtain ⟨B, r⟩ := Zv t;exact d.newRow ⟨g.os, g.tape, g.output, g.size, fun k r _ => g.block k r⟩ B r
theorem gv (μ : M) (l : List Value) (x : Bool) (h : Ta.cs μ l x) : l = [.bool x]:= h
theorem om {α : Type}[Ta α]{f : α → Value}(a : ∀ (μ : M) (x : α), Ta.cs μ [f x] x) : ∀ (l : List α), ma μ (l.map f) l
  | [] => rfl
  | x :: l => ⟨[f x], _, rfl, a μ x, om a l⟩
end
end Go.Proofs.YthdpoglpdpfnbaaGreatDoor
