/- The shelf: texts of Fl. -/
import Derived.Test.YthdpoglpdpfnbaaGreatDoorCXt
import Derived.Test.YthdpoglpdpfnbaaGreatDoorProg
import Derived.KernelRfl
import Derived.Shelf.Strconv.Itoa0
import Derived.Shelf.Strconv.Itoa1
import Derived.Shelf.LaysM
import Derived.Shelf.Strconv.Itoa2
import Derived.Shelf.Strconv.Itoa3
import Derived.Shelf.Strconv.ParseIntEmpty
import Derived.Shelf.Strconv.Clone
import Derived.Shelf.Strconv.SyntaxError
import Derived.Shelf.LaysC
import Derived.Shelf.Strconv.ToError
import Derived.Shelf.Strconv.Lower
import Derived.Shelf.Strconv.ParseUint10
import Derived.Shelf.Strconv.ParseUint10Empty
import Derived.Shelf.Strconv.ParseUint10Any
import Derived.Shelf.Strconv.ParseInt10
import Derived.Shelf.Strconv.RangeError
import Derived.Shelf.Strconv.ToErrorRange
import Derived.Shelf.Strconv.ParseUintEmpty
import Derived.Shelf.Strconv.ParseUint10b64
import Derived.Shelf.Strconv.ParseUint10b32
import Derived.Shelf.Strconv.ParseUint10b16
import Derived.Shelf.Strconv.ParseUint10b8
import Derived.Shelf.Strconv.ParseUint10At
import Derived.Shelf.Strconv.ParseInt10At64
import Derived.Shelf.Strconv.ParseInt10At32
import Derived.Shelf.Strconv.ParseInt10At16
import Derived.Shelf.Strconv.ParseInt10At8
import Derived.Shelf.Strconv.ParseInt10All
import Derived.Shelf.Strconv.ParseIntPublic10
import Derived.Shelf.Strings.Search1
import Derived.Shelf.Strings.Search2
import Derived.Shelf.Strings.Search3
import Derived.Shelf.Strings.Shaped
import Derived.Shelf.Slices.Turned
import Derived.Ground.Names2Prog
import Derived.Shelf.Slices.Clone
import Derived.Ground.SlgnProg
import Derived.Shelf.SlicesE.Clone
import Derived.Test.YthdpoglpdpfnbaaGreatDoorCMd
import Derived.Test.YthdpoglpdpfnbaaGreatDoorCXu
import Derived.Lib.SlicesS
set_option linter.unusedSimpArgs false
set_option linter.unusedVariables false
set_option linter.unusedSectionVars false
namespace Go.Proofs.YthdpoglpdpfnbaaGreatDoor
open Go.vc Go.hd Tryz
instance pM : Mb prog 7 := Zb func7
instance qM : Mb prog 8 := Zb func8
instance rM : Mb prog 9 := Zb func9
instance jH : Mb prog 10 := Zb func10
instance LK : Mb prog 11 := Zb func11
instance MK : Mb prog 12 := Zb func12
instance NK : Mb prog 13 := Zb func13
instance OK : Mb prog 14 := Zb func14
instance PK : Mb prog 15 := Zb func15
instance QK : Mb prog 16 := Zb func16
instance SK : Mb prog 17 := Zb func17
instance TK : Mb prog 18 := Zb func18
instance kH : Mb prog 19 := Zb func19
instance lH : Mb prog 20 := Zb func20
instance UK : Mb prog 21 := Zb func21
instance mH : Mb prog 22 := Zb func22
instance nH : Mb prog 23 := Zb func23
instance VK : Mb prog 24 := Zb func24
instance oH : Mb prog 25 := Zb func25
instance WK : Mb prog 27 := Zb func27
instance pH : Mb prog 28 := Zb func28
instance XK : Mb prog 29 := Zb func29
instance YK : Mb prog 30 := Zb func30
instance Mo : Mb prog 31 := Zb func31
instance ZK : Mb prog 32 := Zb func32
instance aL : Mb prog 33 := Zb func33
instance bL : Mb prog 34 := Zb func34
instance cL : Mb prog 35 := Zb func35
instance QB : Mb prog 36 := Zb func36
instance qH : Mb prog 37 := Zb func37
instance RB : Mb prog 38 := Zb func38
instance SB : Mb prog 39 := Zb func39
instance qy : Mb prog 40 := Zb func40
instance dL : Mb prog 42 := Zb func42
instance eL : Mb prog 43 := Zb func43
instance fL : Mb prog 44 := Zb func44
instance gL : Mb prog 45 := Zb func45
instance hL : Mb prog 46 := Zb func46
instance iL : Mb prog 47 := Zb func47
instance jL : Mb prog 48 := Zb func48
instance kL : Mb prog 49 := Zb func49
instance rH : Mb prog 50 := Zb func50
instance ev : Mb prog 51 := Zb func51
instance sH : Mb prog 52 := Zb func52
instance TB : Mb prog 53 := Zb func53
instance tH : Mb prog 54 := Zb func54
instance lL : Mb prog 55 := Zb func55
instance mL : Mb prog 56 := Zb func56
instance nL : Mb prog 57 := Zb func57
instance oL : Mb prog 58 := Zb func58
instance pL : Mb prog 59 := Zb func59
instance qL : Mb prog 60 := Zb func60
instance rL : Mb prog 61 := Zb func61
instance sL : Mb prog 62 := Zb func62
instance tL : Mb prog 63 := Zb func63
instance uL : Mb prog 64 := Zb func64
instance uH : Mb prog 65 := Zb func65
instance vL : Mb prog 66 := Zb func66
instance UB : Mb prog 67 := Zb func67
instance fv : Mb prog 68 := Zb func68
instance wL : Mb prog 69 := Zb func69
instance xL : Mb prog 70 := Zb func70
instance yL : Mb prog 71 := Zb func71
instance vH : Mb prog 72 := Zb func72
instance zL : Mb prog 73 := Zb func73
instance VB : Mb prog 74 := Zb func74
instance wH : Mb prog 75 := Zb func75
instance xH : Mb prog 76 := Zb func76
instance yH : Mb prog 77 := Zb func77
instance zH : Mb prog 78 := Zb func78
instance AL : Mb prog 79 := Zb func79
instance BL : Mb prog 80 := Zb func80
instance WB : Mb prog 81 := Zb func81
instance AH : Mb prog 82 := Zb func82
instance BH : Mb prog 83 := Zb func83
instance CL : Mb prog 84 := Zb func84
instance DL : Mb prog 85 := Zb func85
instance CH : Mb prog 86 := Zb func86
instance EL : Mb prog 87 := Zb func87
instance FL : Mb prog 88 := Zb func88
instance DH : Mb prog 89 := Zb func89
instance GL : Mb prog 92 := Zb func92
instance HL : Mb prog 93 := Zb func93
instance yr : Mb prog 94 := Zb func94
instance IL : Mb prog 95 := Zb func95
instance JL : Mb prog 96 := Zb func96
instance KL : Mb prog 97 := Zb func97
instance LL : Mb prog 98 := Zb func98
instance ML : Mb prog 99 := Zb func99
instance nJ : Mb prog 100 := Zb func100
instance SF : Mb prog 101 := Zb func101
instance Yx : Mb prog 102 := Zb func102
instance oJ : Mb prog 103 := Zb func103
instance TF : Mb prog 104 := Zb func104
instance UF : Mb prog 105 := Zb func105
instance VF : Mb prog 106 := Zb func106
instance XF : Mb prog 108 := Zb func108
instance Lu : Mb prog 109 := Zb func109
instance Mu : Mb prog 110 := Zb func110
instance rB : Mb prog 111 := Zb func111
instance sB : Mb prog 112 := Zb func112
instance pJ : Mb prog 113 := Zb func113
instance qJ : Mb prog 114 := Zb func114
instance rJ : Mb prog 115 := Zb func115
instance YF : Mb prog 116 := Zb func116
instance sJ : Mb prog 117 := Zb func117
instance tB : Mb prog 118 := Zb func118
instance tJ : Mb prog 119 := Zb func119
instance uJ : Mb prog 125 := Zb func125
instance ZF : Mb prog 126 := Zb func126
instance aG : Mb prog 127 := Zb func127
instance aq : Mb prog 128 := Zb func128
instance uB : Mb prog 129 := Zb func129
instance vJ : Mb prog 130 := Zb func130
instance bG : Mb prog 131 := Zb func131
instance cG : Mb prog 132 := Zb func132
instance wJ : Mb prog 133 := Zb func133
instance xJ : Mb prog 135 := Zb func135
instance dG : Mb prog 136 := Zb func136
instance yJ : Mb prog 137 := Zb func137
instance zJ : Mb prog 138 := Zb func138
instance AJ : Mb prog 139 := Zb func139
instance BJ : Mb prog 140 := Zb func140
instance eG : Mb prog 148 := Zb func148
instance CJ : Mb prog 149 := Zb func149
instance DJ : Mb prog 150 := Zb func150
instance Nu : Mb prog 151 := Zb func151
instance Vf : Mb prog 152 := Zb func152
instance EJ : Mb prog 153 := Zb func153
instance FJ : Mb prog 154 := Zb func154
instance GJ : Mb prog 157 := Zb func157
instance HJ : Mb prog 158 := Zb func158
instance IJ : Mb prog 159 := Zb func159
instance vB : Mb prog 160 := Zb func160
instance fG : Mb prog 161 := Zb func161
instance gG : Mb prog 162 := Zb func162
instance JJ : Mb prog 168 := Zb func168
instance KJ : Mb prog 169 := Zb func169
instance LJ : Mb prog 170 := Zb func170
instance kg : Mb prog 171 := Zb func171
instance hG : Mb prog 172 := Zb func172
instance MJ : Mb prog 179 := Zb func179
instance NJ : Mb prog 180 := Zb func180
instance rr : Mb prog 181 := Zb func181
instance OJ : Mb prog 183 := Zb func183
instance PJ : Mb prog 184 := Zb func184
instance iG : Mb prog 207 := Zb func207
instance jG : Mb prog 210 := Zb func210
instance Zg : Lc prog 2 false [.int .i64 0] 1 8 := oe (z := .int .i64 0) underlying2
instance fb : Lc prog 3 false [.int .i64 0] 1 8 := oe (z := .int .i64 0) underlying3
instance Zj : Lc prog 4 false [.bool false] 1 1 := oe (z := .bool false) underlying4
instance Rd : Lc prog 9 false [S []] 1 16 := oe (z := S []) underlying9
instance Bi : Lc prog 22 false [.slice none 0 0] 1 24 := oe (z := .slice none 0 0) underlying22
instance Rr : Lc prog 26 false [.slice none 0 0] 1 24 := oe (z := .slice none 0 0) underlying26
instance Ci : Lc prog 27 false [.slice none 0 0] 1 24 := oe (z := .slice none 0 0) underlying27
instance Qm : Lc prog 29 true [.int .i64 0, .int .i64 0, .int .i64 0, .slice none 0 0, .slice none 0 0, .slice none 0 0, .int .i64 0] 7 104 := oe (z := .agg #[.int .i64 0, .int .i64 0, .int .i64 0, .slice none 0 0, .slice none 0 0, .slice none 0 0, .int .i64 0]) underlying29
instance Sr : Lc prog 30 false [.int .i64 0] 1 8 := oe (z := .int .i64 0) underlying30
instance Wo : Lc prog 34 false [.slice none 0 0] 1 24 := oe (z := .slice none 0 0) underlying34
instance zk : Lc prog 35 false [.slice none 0 0] 1 24 := oe (z := .slice none 0 0) underlying35
instance Ak : Lc prog 37 true [.slice none 0 0, .slice none 0 0] 2 48 := oe (z := .agg #[.slice none 0 0, .slice none 0 0]) underlying37
instance Un : Lc prog 43 false [.slice none 0 0] 1 24 := oe (z := .slice none 0 0) underlying43
instance pg : Lc prog 45 true [.int .i64 0, .int .i64 0] 2 16 := oe (z := .agg #[.int .i64 0, .int .i64 0]) underlying45
instance Si : Lc prog 51 true [.int .i64 0, .int .i64 0, .int .i64 0] 3 24 := oe (z := .agg #[.int .i64 0, .int .i64 0, .int .i64 0]) underlying51
instance Wj : Lc prog 54 false [.pointer none] 1 8 := oe (z := .pointer none) underlying54
instance Vn : Lc prog 56 true [.int .i64 0, .int .i64 0] 2 16 := oe (z := .agg #[.int .i64 0, .int .i64 0]) underlying56
instance tC : Lc prog 59 true [.slice none 0 0, .slice none 0 0, .slice none 0 0] 3 72 := oe (z := .agg #[.slice none 0 0, .slice none 0 0, .slice none 0 0]) underlying59
instance nz : Lc prog 64 false [.nilIface] 1 16 := oe (z := .nilIface) underlying64
instance xl : Lc prog 65 false [.slice none 0 0] 1 24 := oe (z := .slice none 0 0) underlying65
instance ri : Lc prog 66 false [.pointer none] 1 8 := oe (z := .pointer none) underlying66
instance NI : Lc prog 67 false [.nilFunc] 1 8 := oe (z := .nilFunc) underlying67
instance OI : Lc prog 69 true [.pointer none, .nilIface, .slice none 0 0, .pointer none, .int .i64 0, .int .i64 0, .int .i64 0, .slice none 0 0, .nilFunc] 9 112 := oe (z := .agg #[.pointer none, .nilIface, .slice none 0 0, .pointer none, .int .i64 0, .int .i64 0, .int .i64 0, .slice none 0 0, .nilFunc]) underlying69
instance oz : Lc prog 70 false [.slice none 0 0] 1 24 := oe (z := .slice none 0 0) underlying70
instance Ug : Lc prog 74 true [S [], S []] 2 32 := oe (z := .agg #[S [], S []]) underlying74
instance fm : Lc prog 76 false [.slice none 0 0] 1 24 := oe (z := .slice none 0 0) underlying76
instance sM : Lc prog 81 false [.pointer none] 1 8 := oe (z := .pointer none) underlying81
instance PI : Lc prog 83 true [.slice none 0 0, .int .i64 0, .int .i64 0] 3 40 := oe (z := .agg #[.slice none 0 0, .int .i64 0, .int .i64 0]) underlying83
instance Db : Lc prog 87 true [.int .i64 0, S []] 2 24 := oe (z := .agg #[.int .i64 0, S []]) underlying87
instance Tr : Lc prog 88 false [.slice none 0 0] 1 24 := oe (z := .slice none 0 0) underlying88
instance pz : Lc prog 89 false [.slice none 0 0] 1 24 := oe (z := .slice none 0 0) underlying89
instance vg : Lc prog 91 true [.int .i64 0, S [], .int .i64 0, S [], .int .i64 0, S [], .int .i64 0, .slice none 0 0, .slice none 0 0] 9 128 := oe (z := .agg #[.int .i64 0, S [], .int .i64 0, S [], .int .i64 0, S [], .int .i64 0, .slice none 0 0, .slice none 0 0]) underlying91
instance gm : Lc prog 94 false [.pointer none] 1 8 := oe (z := .pointer none) underlying94
instance aj : Lc prog 95 false [.map none] 1 8 := oe (z := .map none) underlying95
instance Wn : Lc prog 96 false [.map none] 1 8 := oe (z := .map none) underlying96
instance QI : Lc prog 98 true [.map none, .map none, .map none] 3 24 := oe (z := .agg #[.map none, .map none, .map none]) underlying98
instance Di : Lc prog 99 false [.pointer none] 1 8 := oe (z := .pointer none) underlying99
instance yk : Lc prog 101 false [.slice none 0 0] 1 24 := oe (z := .slice none 0 0) underlying101
instance Mh : Lc prog 103 true [.int .i64 0, .int .i64 0, .slice none 0 0, .int .i64 0, .int .i64 0, .slice none 0 0] 6 80 := oe (z := .agg #[.int .i64 0, .int .i64 0, .slice none 0 0, .int .i64 0, .int .i64 0, .slice none 0 0]) underlying103
instance kv : Lc prog 105 false [.pointer none] 1 8 := oe (z := .pointer none) underlying105
instance mI : Lc prog 107 true [.pointer none] 1 8 := oe (z := .agg #[.pointer none]) underlying107
instance Ki : Lc prog 111 false [.slice none 0 0] 1 24 := oe (z := .slice none 0 0) underlying111
instance Ro : Lc prog 112 false [.pointer none] 1 8 := oe (z := .pointer none) underlying112
instance nI : Lc prog 114 true [.int .i64 0, .pointer none, .slice none 0 0, .pointer none] 4 48 := oe (z := .agg #[.int .i64 0, .pointer none, .slice none 0 0, .pointer none]) underlying114
instance mj : Lc prog 117 true [.int .i64 0, .int .i64 0, .int .i64 0] 3 24 := oe (z := .agg #[.int .i64 0, .int .i64 0, .int .i64 0]) underlying117
instance ei : Lc prog 120 true [.int .i64 0, .int .i64 0, .int .i64 0] 3 24 := oe (z := .agg #[.int .i64 0, .int .i64 0, .int .i64 0]) underlying120
instance zj : Lc prog 133 true [.int .i64 0, S [], .int .i64 0, .int .i64 0] 4 40 := oe (z := .agg #[.int .i64 0, S [], .int .i64 0, .int .i64 0]) underlying133
instance oI : Lc prog 149 true [.int .i64 0] 1 8 := oe (z := .agg #[.int .i64 0]) underlying149
instance Uy : Lc prog 150 false [.nilFunc] 1 8 := oe (z := .nilFunc) underlying150
instance So : Lc prog 155 false [.slice none 0 0] 1 24 := oe (z := .slice none 0 0) underlying155
instance pI : Lc prog 157 true [.pointer none, .int .i64 0, .int .i64 0, .slice none 0 0, .int .i64 0, .int .i64 0, .slice none 0 0, .slice none 0 0] 8 112 := oe (z := .agg #[.pointer none, .int .i64 0, .int .i64 0, .slice none 0 0, .int .i64 0, .int .i64 0, .slice none 0 0, .slice none 0 0]) underlying157
instance nj : Lc prog 159 true [S [], .int .i64 0, S []] 3 40 := oe (z := .agg #[S [], .int .i64 0, S []]) underlying159
instance Vy : Lc prog 164 false [.pointer none] 1 8 := oe (z := .pointer none) underlying164
instance Wy : Lc prog 168 false [.map none] 1 8 := oe (z := .map none) underlying168
instance Jm : Lc prog 169 false [.slice none 0 0] 1 24 := oe (z := .slice none 0 0) underlying169
instance Aj : Lc prog 171 true [.slice none 0 0, .slice none 0 0] 2 48 := oe (z := .agg #[.slice none 0 0, .slice none 0 0]) underlying171
instance qI : Lc prog 173 true [.pointer none, .pointer none, .map none, .slice none 0 0, .slice none 0 0, .slice none 0 0, .int .i64 0] 7 104 := oe (z := .agg #[.pointer none, .pointer none, .map none, .slice none 0 0, .slice none 0 0, .slice none 0 0, .int .i64 0]) underlying173
instance rI : Lc prog 181 true [.slice none 0 0, .int .i64 0, .int .i64 0, .int .i64 0] 4 48 := oe (z := .agg #[.slice none 0 0, .int .i64 0, .int .i64 0, .int .i64 0]) underlying181
instance Li : Lc prog 188 false [.slice none 0 0] 1 24 := oe (z := .slice none 0 0) underlying188
instance Jg : Lc prog 191 false [.slice none 0 0] 1 24 := oe (z := .slice none 0 0) underlying191
instance ad : Lc prog 193 true [.int .i64 0, .int .i64 0, S [], .slice none 0 0] 4 56 := oe (z := .agg #[.int .i64 0, .int .i64 0, S [], .slice none 0 0]) underlying193
instance Ai : Lc prog 195 true [.int .i64 0, S [], .int .i64 0, .int .i64 0, S [], .slice none 0 0, .slice none 0 0, .slice none 0 0] 8 128 := oe (z := .agg #[.int .i64 0, S [], .int .i64 0, .int .i64 0, S [], .slice none 0 0, .slice none 0 0, .slice none 0 0]) underlying195
instance lv : Lc prog 200 false [.pointer none] 1 8 := oe (z := .pointer none) underlying200
instance Ir : Lc prog 205 true [.slice none 0 0, .slice none 0 0, .slice none 0 0] 3 72 := oe (z := .agg #[.slice none 0 0, .slice none 0 0, .slice none 0 0]) underlying205
instance Jr : Lc prog 208 true [S [], S [], S []] 3 48 := oe (z := .agg #[S [], S [], S []]) underlying208
instance sI : Lc prog 209 false [.pointer none] 1 8 := oe (z := .pointer none) underlying209
instance Km : Lc prog 210 true [.slice none 0 0, .pointer none] 2 32 := oe (z := .agg #[.slice none 0 0, .pointer none]) underlying210
instance tI : Lc prog 237 true [.slice none 0 0, .map none] 2 32 := oe (z := .agg #[.slice none 0 0, .map none]) underlying237
instance ml : Lc prog 257 false [.pointer none] 1 8 := oe (z := .pointer none) underlying257
instance fj : Lc prog 258 false [.map none] 1 8 := oe (z := .map none) underlying258
instance nk : Lc prog 259 false [.slice none 0 0] 1 24 := oe (z := .slice none 0 0) underlying259
instance uI : Lc prog 261 true [.pointer none, .pointer none, .slice none 0 0] 3 40 := oe (z := .agg #[.pointer none, .pointer none, .slice none 0 0]) underlying261
instance Pn : Lc prog 274 true [.map none, .bool false] 2 16 := oe (z := .agg #[.map none, .bool false]) underlying274
theorem RI : prog.eqGuardType prog.depth 87 = false := by kernel_rfl
theorem SI : prog.stoodInHeld 87 = false := by kernel_rfl
instance kG : jd prog 103 0 0 := nd underlying103 rfl rfl rfl fb rfl
instance Ou : jd prog 103 1 1 := nd underlying103 rfl rfl rfl fb rfl
instance wB : jd prog 103 2 2 := nd underlying103 rfl rfl rfl Ci rfl
instance QJ : jd prog 103 3 3 := nd underlying103 rfl rfl rfl fb rfl
instance RJ : jd prog 103 4 4 := nd underlying103 rfl rfl rfl fb rfl
instance xB : jd prog 103 5 5 := nd underlying103 rfl rfl rfl yk rfl
instance lG : jd prog 107 0 0 := nd underlying107 rfl rfl rfl Wj rfl
instance mG : jd prog 114 0 0 := nd underlying114 rfl rfl rfl fb rfl
instance SJ : jd prog 114 1 1 := nd underlying114 rfl rfl rfl ri rfl
instance yB : jd prog 114 2 2 := nd underlying114 rfl rfl rfl Ki rfl
instance TJ : jd prog 114 3 3 := nd underlying114 rfl rfl rfl Ro rfl
instance nG : jd prog 117 0 0 := nd underlying117 rfl rfl rfl fb rfl
instance Zx : jd prog 117 1 1 := nd underlying117 rfl rfl rfl fb rfl
instance UJ : jd prog 117 2 2 := nd underlying117 rfl rfl rfl fb rfl
instance oG : jd prog 120 0 0 := nd underlying120 rfl rfl rfl fb rfl
instance Pu : jd prog 120 1 1 := nd underlying120 rfl rfl rfl fb rfl
instance VJ : jd prog 120 2 2 := nd underlying120 rfl rfl rfl Zg rfl
instance WJ : jd prog 133 0 0 := nd underlying133 rfl rfl rfl fb rfl
instance XJ : jd prog 133 1 1 := nd underlying133 rfl rfl rfl Rd rfl
instance YJ : jd prog 133 2 2 := nd underlying133 rfl rfl rfl Zg rfl
instance ZJ : jd prog 133 3 3 := nd underlying133 rfl rfl rfl fb rfl
instance aK : jd prog 149 0 0 := nd underlying149 rfl rfl rfl fb rfl
instance bK : jd prog 157 0 0 := nd underlying157 rfl rfl rfl gm rfl
instance cK : jd prog 157 1 1 := nd underlying157 rfl rfl rfl Mh rfl
instance dK : jd prog 157 2 7 := nd underlying157 rfl rfl rfl So rfl
instance eK : jd prog 159 0 0 := nd underlying159 rfl rfl rfl Rd rfl
instance fK : jd prog 159 1 1 := nd underlying159 rfl rfl rfl Db rfl
instance gK : jd prog 171 0 0 := nd underlying171 rfl rfl rfl Ci rfl
instance hK : jd prog 171 1 1 := nd underlying171 rfl rfl rfl Jm rfl
instance iK : jd prog 173 0 0 := nd underlying173 rfl rfl rfl kv rfl
instance jK : jd prog 173 1 1 := nd underlying173 rfl rfl rfl Vy rfl
instance kK : jd prog 173 2 2 := nd underlying173 rfl rfl rfl Wy rfl
instance lK : jd prog 173 3 3 := nd underlying173 rfl rfl rfl Ci rfl
instance mK : jd prog 173 4 4 := nd underlying173 rfl rfl rfl Aj rfl
instance nK : jd prog 173 5 6 := nd underlying173 rfl rfl rfl Sr rfl
instance pG : jd prog 181 0 0 := nd underlying181 rfl rfl rfl Bi rfl
instance oK : jd prog 181 1 1 := nd underlying181 rfl rfl rfl fb rfl
instance qG : jd prog 181 2 2 := nd underlying181 rfl rfl rfl fb rfl
instance pK : jd prog 181 3 3 := nd underlying181 rfl rfl rfl fb rfl
instance qK : jd prog 193 0 0 := nd underlying193 rfl rfl rfl fb rfl
instance rK : jd prog 193 1 1 := nd underlying193 rfl rfl rfl Zg rfl
instance sK : jd prog 193 2 2 := nd underlying193 rfl rfl rfl Rd rfl
instance tK : jd prog 193 3 3 := nd underlying193 rfl rfl rfl Jg rfl
instance uK : jd prog 195 0 0 := nd underlying195 rfl rfl rfl fb rfl
instance vK : jd prog 195 1 1 := nd underlying195 rfl rfl rfl Rd rfl
instance wK : jd prog 195 2 2 := nd underlying195 rfl rfl rfl ad rfl
instance xK : jd prog 195 3 6 := nd underlying195 rfl rfl rfl pz rfl
instance yK : jd prog 205 0 0 := nd underlying205 rfl rfl rfl Li rfl
instance zK : jd prog 205 1 1 := nd underlying205 rfl rfl rfl Li rfl
instance AK : jd prog 205 2 2 := nd underlying205 rfl rfl rfl Li rfl
instance BK : jd prog 208 1 1 := nd underlying208 rfl rfl rfl Rd rfl
instance CK : jd prog 208 2 2 := nd underlying208 rfl rfl rfl Rd rfl
instance DK : jd prog 210 0 0 := nd underlying210 rfl rfl rfl Li rfl
instance EK : jd prog 210 1 1 := nd underlying210 rfl rfl rfl sI rfl
instance FK : jd prog 237 1 1 := nd underlying237 rfl rfl rfl Wn rfl
instance GK : jd prog 261 0 0 := nd underlying261 rfl rfl rfl lv rfl
instance HK : jd prog 261 1 1 := nd underlying261 rfl rfl rfl Di rfl
instance IK : jd prog 261 2 2 := nd underlying261 rfl rfl rfl nk rfl
instance JK : jd prog 274 0 0 := nd underlying274 rfl rfl rfl aj rfl
instance KK : jd prog 274 1 1 := nd underlying274 rfl rfl rfl Zj rfl
instance NL : jd prog 29 0 0 := nd underlying29 rfl rfl rfl fb rfl
instance OL : jd prog 29 3 3 := nd underlying29 rfl rfl rfl Bi rfl
instance EH : jd prog 37 0 0 := nd underlying37 rfl rfl rfl Wo rfl
instance FH : jd prog 37 1 1 := nd underlying37 rfl rfl rfl zk rfl
instance PL : jd prog 45 0 0 := nd underlying45 rfl rfl rfl Sr rfl
instance QL : jd prog 51 0 0 := nd underlying51 rfl rfl rfl Sr rfl
instance RL : jd prog 56 0 0 := nd underlying56 rfl rfl rfl fb rfl
instance SL : jd prog 56 1 1 := nd underlying56 rfl rfl rfl fb rfl
instance TL : jd prog 59 0 0 := nd underlying59 rfl rfl rfl Rr rfl
instance UL : jd prog 59 1 1 := nd underlying59 rfl rfl rfl Ci rfl
instance VL : jd prog 59 2 2 := nd underlying59 rfl rfl rfl Rr rfl
instance GH : jd prog 69 0 0 := nd underlying69 rfl rfl rfl Wj rfl
instance HH : jd prog 69 1 1 := nd underlying69 rfl rfl rfl nz rfl
instance IH : jd prog 69 2 2 := nd underlying69 rfl rfl rfl xl rfl
instance zr : jd prog 69 3 3 := nd underlying69 rfl rfl rfl ri rfl
instance JH : jd prog 69 4 4 := nd underlying69 rfl rfl rfl fb rfl
instance WL : jd prog 69 5 5 := nd underlying69 rfl rfl rfl fb rfl
instance XL : jd prog 69 6 6 := nd underlying69 rfl rfl rfl fb rfl
instance YL : jd prog 69 7 7 := nd underlying69 rfl rfl rfl Bi rfl
instance ZL : jd prog 69 8 8 := nd underlying69 rfl rfl rfl NI rfl
instance aM : jd prog 74 0 0 := nd underlying74 rfl rfl rfl Rd rfl
instance bM : jd prog 74 1 1 := nd underlying74 rfl rfl rfl Rd rfl
instance cM : jd prog 83 0 0 := nd underlying83 rfl rfl rfl fm rfl
instance dM : jd prog 83 2 2 := nd underlying83 rfl rfl rfl fb rfl
instance eM : jd prog 87 0 0 := nd underlying87 rfl rfl rfl fb rfl
instance fM : jd prog 87 1 1 := nd underlying87 rfl rfl rfl Rd rfl
instance KH : jd prog 91 0 0 := nd underlying91 rfl rfl rfl fb rfl
instance gM : jd prog 91 1 1 := nd underlying91 rfl rfl rfl Rd rfl
instance hM : jd prog 91 2 2 := nd underlying91 rfl rfl rfl Db rfl
instance iM : jd prog 91 3 4 := nd underlying91 rfl rfl rfl Db rfl
instance jM : jd prog 91 4 6 := nd underlying91 rfl rfl rfl fb rfl
instance kM : jd prog 91 5 7 := nd underlying91 rfl rfl rfl Tr rfl
instance lM : jd prog 91 6 8 := nd underlying91 rfl rfl rfl pz rfl
instance mM : jd prog 98 0 0 := nd underlying98 rfl rfl rfl aj rfl
instance nM : jd prog 98 1 1 := nd underlying98 rfl rfl rfl aj rfl
instance oM : jd prog 98 2 2 := nd underlying98 rfl rfl rfl Wn rfl
theorem vI : gh prog 103 #[(0, 1), (1, 1), (2, 1), (3, 1), (4, 1), (5, 1)]:= vh underlying103 (fun _ => by kernel_rfl)
theorem wI : gh prog 107 #[(0, 1)]:= vh underlying107 (fun _ => by kernel_rfl)
theorem xI : gh prog 114 #[(0, 1), (1, 1), (2, 1), (3, 1)]:= vh underlying114 (fun _ => by kernel_rfl)
theorem jC : gh prog 117 #[(0, 1), (1, 1), (2, 1)]:= vh underlying117 (fun _ => by kernel_rfl)
theorem yI : gh prog 120 #[(0, 1), (1, 1), (2, 1)]:= vh underlying120 (fun _ => by kernel_rfl)
theorem zI : gh prog 133 #[(0, 1), (1, 1), (2, 1), (3, 1)]:= vh underlying133 (fun _ => by kernel_rfl)
theorem AI : gh prog 149 #[(0, 1)]:= vh underlying149 (fun _ => by kernel_rfl)
theorem BI : gh prog 157 #[(0, 1), (1, 6), (7, 1)]:= vh underlying157 (fun _ => by kernel_rfl)
theorem CI : gh prog 159 #[(0, 1), (1, 2)]:= vh underlying159 (fun _ => by kernel_rfl)
theorem mv : gh prog 171 #[(0, 1), (1, 1)]:= vh underlying171 (fun _ => by kernel_rfl)
theorem DI : gh prog 173 #[(0, 1), (1, 1), (2, 1), (3, 1), (4, 2), (6, 1)]:= vh underlying173 (fun _ => by kernel_rfl)
theorem EI : gh prog 181 #[(0, 1), (1, 1), (2, 1), (3, 1)]:= vh underlying181 (fun _ => by kernel_rfl)
theorem ql : gh prog 193 #[(0, 1), (1, 1), (2, 1), (3, 1)]:= vh underlying193 (fun _ => by kernel_rfl)
theorem rq : gh prog 195 #[(0, 1), (1, 1), (2, 4), (6, 1), (7, 1)]:= vh underlying195 (fun _ => by kernel_rfl)
theorem FI : gh prog 208 #[(0, 1), (1, 1), (2, 1)]:= vh underlying208 (fun _ => by kernel_rfl)
theorem kC : gh prog 210 #[(0, 1), (1, 1)]:= vh underlying210 (fun _ => by kernel_rfl)
theorem GI : gh prog 237 #[(0, 1), (1, 1)]:= vh underlying237 (fun _ => by kernel_rfl)
theorem HI : gh prog 261 #[(0, 1), (1, 1), (2, 1)]:= vh underlying261 (fun _ => by kernel_rfl)
theorem Kr : gh prog 274 #[(0, 1), (1, 1)]:= vh underlying274 (fun _ => by kernel_rfl)
theorem TI : gh prog 29 #[(0, 1), (1, 1), (2, 1), (3, 1), (4, 1), (5, 1), (6, 1)]:= vh underlying29 (fun _ => by kernel_rfl)
theorem Ur : gh prog 45 #[(0, 1), (1, 1)]:= vh underlying45 (fun _ => by kernel_rfl)
theorem qz : gh prog 51 #[(0, 1), (1, 1), (2, 1)]:= vh underlying51 (fun _ => by kernel_rfl)
theorem UI : gh prog 56 #[(0, 1), (1, 1)]:= vh underlying56 (fun _ => by kernel_rfl)
theorem uC : gh prog 59 #[(0, 1), (1, 1), (2, 1)]:= vh underlying59 (fun _ => by kernel_rfl)
theorem VI : gh prog 69 #[(0, 1), (1, 1), (2, 1), (3, 1), (4, 1), (5, 1), (6, 1), (7, 1), (8, 1)]:= vh underlying69 (fun _ => by kernel_rfl)
theorem fi : gh prog 74 #[(0, 1), (1, 1)]:= vh underlying74 (fun _ => by kernel_rfl)
theorem WI : gh prog 83 #[(0, 1), (1, 1), (2, 1)]:= vh underlying83 (fun _ => by kernel_rfl)
theorem uq : gh prog 87 #[(0, 1), (1, 1)]:= vh underlying87 (fun _ => by kernel_rfl)
theorem rz : gh prog 91 #[(0, 1), (1, 1), (2, 2), (4, 2), (6, 1), (7, 1), (8, 1)]:= vh underlying91 (fun _ => by kernel_rfl)
theorem XI : gh prog 98 #[(0, 1), (1, 1), (2, 1)]:= vh underlying98 (fun _ => by kernel_rfl)
theorem lC : ∀ w, (zeroValue 171).run prog w = .ok (.agg #[.slice none 0 0, .slice none 0 0]) w := Er (by kernel_rfl)
theorem mC : ∀ w, (zeroValue 205).run prog w = .ok (.agg #[.slice none 0 0, .slice none 0 0, .slice none 0 0]) w := Er (by kernel_rfl)
theorem Zo : ∀ w, (zeroValue 3).run prog w = .ok (.int .i64 0) w := Er (by kernel_rfl)
theorem YI : ∀ w, (zeroValue 87).run prog w = .ok (.agg #[.int .i64 0, S []]) w := Er (by kernel_rfl)
theorem Xn : ∀ w, (zeroValue 99).run prog w = .ok (.pointer none) w := Er (by kernel_rfl)
end Go.Proofs.YthdpoglpdpfnbaaGreatDoor
namespace Go.Proofs
open Go.Shelf
def Tryz.RC : Go.Shelf.Ren := ⟨fun | 174 => 54 | 247 => 90 | 245 => 91 | 287 => 120 | 279 => 121 | 280 => 122 | 281 => 123 | 282 => 124 | 321 => 142 | 322 => 143 | 316 => 144 | 171 => 146 | 205 => 145 | 243 => 155 | 246 => 163 | 283 => 173 | 284 => 174 | 285 => 175 | 286 => 176 | 129 => 186 | 317 => 185 | 318 => 187 | 319 => 188 | 320 => 189 | 337 => 190 | 338 => 191 | n => n, fun | 9 => 9 | 3 => 3 | 2 => 2 | 75 => 137 | 85 => 138 | 4 => 4 | 167 => 226 | 5 => 5 | 53 => 227 | 175 => 228 | 46 => 230 | 168 => 231 | 37 => 248 | 0 => 0 | 210 => 250 | 21 => 21 | 127 => 267 | 145 => 270 | 143 => 268 | 171 => 285 | 173 => 288 | 212 => 299 | 51 => 290 | 20 => 20 | 213 => 300 | 232 => 303 | 233 => 304 | 80 => 142 | n => n, fun | 15 => 0 | 16 => 1 | 17 => 3 | 18 => 4 | 19 => 5 | n => n⟩
theorem Tryz.aF : Go.Proofs.LaysC.n174 Tryz.prog Tryz.RC := {
  mixed := by kernel_rfl
  f129 := Tryz.func186.trans (congrArg some (by kernel_rfl))
  f171 := Tryz.func146.trans (congrArg some (by kernel_rfl))
  f174 := Tryz.func54.trans (congrArg some (by kernel_rfl))
  f205 := Tryz.func145.trans (congrArg some (by kernel_rfl))
  f243 := Tryz.func155.trans (congrArg some (by kernel_rfl))
  f245 := Tryz.func91.trans (congrArg some (by kernel_rfl))
  f246 := Tryz.func163.trans (congrArg some (by kernel_rfl))
  f247 := Tryz.func90.trans (congrArg some (by kernel_rfl))
  f279 := Tryz.func121.trans (congrArg some (by kernel_rfl))
  f280 := Tryz.func122.trans (congrArg some (by kernel_rfl))
  f281 := Tryz.func123.trans (congrArg some (by kernel_rfl))
  f282 := Tryz.func124.trans (congrArg some (by kernel_rfl))
  f283 := Tryz.func173.trans (congrArg some (by kernel_rfl))
  f284 := Tryz.func174.trans (congrArg some (by kernel_rfl))
  f285 := Tryz.func175.trans (congrArg some (by kernel_rfl))
  f286 := Tryz.func176.trans (congrArg some (by kernel_rfl))
  f287 := Tryz.func120.trans (congrArg some (by kernel_rfl))
  f316 := Tryz.func144.trans (congrArg some (by kernel_rfl))
  f317 := Tryz.func185.trans (congrArg some (by kernel_rfl))
  f318 := Tryz.func187.trans (congrArg some (by kernel_rfl))
  f319 := Tryz.func188.trans (congrArg some (by kernel_rfl))
  f320 := Tryz.func189.trans (congrArg some (by kernel_rfl))
  f321 := Tryz.func142.trans (congrArg some (by kernel_rfl))
  f322 := Tryz.func143.trans (congrArg some (by kernel_rfl))
  f337 := Tryz.func190.trans (congrArg some (by kernel_rfl))
  f338 := Tryz.func191.trans (congrArg some (by kernel_rfl))
  t0 := Tryz.underlying0
  a0 := Tryz.isAgg0
  z0 := Tryz.sizeOf0
  v0 := Tryz.zeroValue0
  t2 := Tryz.underlying2
  a2 := Tryz.isAgg2
  z2 := Tryz.sizeOf2
  v2 := Tryz.zeroValue2
  t3 := Tryz.underlying3
  a3 := Tryz.isAgg3
  z3 := Tryz.sizeOf3
  v3 := Tryz.zeroValue3
  t4 := Tryz.underlying4
  a4 := Tryz.isAgg4
  z4 := Tryz.sizeOf4
  v4 := Tryz.zeroValue4
  t5 := Tryz.underlying5
  a5 := Tryz.isAgg5
  z5 := Tryz.sizeOf5
  v5 := Tryz.zeroValue5
  t9 := Tryz.underlying9
  a9 := Tryz.isAgg9
  z9 := Tryz.sizeOf9
  v9 := Tryz.zeroValue9
  t20 := Tryz.underlying20
  a20 := Tryz.isAgg20
  z20 := Tryz.sizeOf20
  v20 := Tryz.zeroValue20
  t21 := Tryz.underlying21
  a21 := Tryz.isAgg21
  z21 := Tryz.sizeOf21
  v21 := Tryz.zeroValue21
  t37 := Tryz.underlying248
  a37 := Tryz.isAgg248
  z37 := Tryz.sizeOf248
  v37 := Tryz.zeroValue248
  t46 := Tryz.underlying230
  a46 := Tryz.isAgg230
  z46 := Tryz.sizeOf230
  v46 := Tryz.zeroValue230
  t51 := Tryz.underlying290
  a51 := Tryz.isAgg290
  z51 := Tryz.sizeOf290
  v51 := Tryz.zeroValue290
  t53 := Tryz.underlying227
  a53 := Tryz.isAgg227
  z53 := Tryz.sizeOf227
  v53 := Tryz.zeroValue227
  t75 := Tryz.underlying137
  a75 := Tryz.isAgg137
  z75 := Tryz.sizeOf137
  v75 := Tryz.zeroValue137
  t85 := Tryz.underlying138
  a85 := Tryz.isAgg138
  z85 := Tryz.sizeOf138
  v85 := Tryz.zeroValue138
  t127 := Tryz.underlying267
  a127 := Tryz.isAgg267
  z127 := Tryz.sizeOf267
  v127 := Tryz.zeroValue267
  t143 := Tryz.underlying268
  a143 := Tryz.isAgg268
  z143 := Tryz.sizeOf268
  v143 := Tryz.zeroValue268
  t145 := Tryz.underlying270
  a145 := Tryz.isAgg270
  z145 := Tryz.sizeOf270
  v145 := Tryz.zeroValue270
  t167 := Tryz.underlying226
  a167 := Tryz.isAgg226
  z167 := Tryz.sizeOf226
  v167 := Tryz.zeroValue226
  t168 := Tryz.underlying231
  a168 := Tryz.isAgg231
  z168 := Tryz.sizeOf231
  v168 := Tryz.zeroValue231
  t171 := Tryz.underlying285
  a171 := Tryz.isAgg285
  z171 := Tryz.sizeOf285
  v171 := Tryz.zeroValue285
  t173 := Tryz.underlying288
  a173 := Tryz.isAgg288
  z173 := Tryz.sizeOf288
  v173 := Tryz.zeroValue288
  t175 := Tryz.underlying228
  a175 := Tryz.isAgg228
  z175 := Tryz.sizeOf228
  v175 := Tryz.zeroValue228
  t210 := Tryz.underlying250
  a210 := Tryz.isAgg250
  z210 := Tryz.sizeOf250
  v210 := Tryz.zeroValue250
  t212 := Tryz.underlying299
  a212 := Tryz.isAgg299
  z212 := Tryz.sizeOf299
  v212 := Tryz.zeroValue299
  t213 := Tryz.underlying300
  a213 := Tryz.isAgg300
  z213 := Tryz.sizeOf300
  t232 := Tryz.underlying303
  a232 := Tryz.isAgg303
  z232 := Tryz.sizeOf303
  v232 := Tryz.zeroValue303
  t233 := Tryz.underlying304
  a233 := Tryz.isAgg304
  z233 := Tryz.sizeOf304
  v233 := Tryz.zeroValue304
  g15 := by kernel_rfl
  g16 := by kernel_rfl
  g17 := by kernel_rfl
  g18 := by kernel_rfl
  g19 := by kernel_rfl
  t80 := Tryz.underlying142
  a80 := Tryz.isAgg142
  z80 := Tryz.sizeOf142
  v80 := Tryz.zeroValue142
  i0 := by kernel_rfl
  i2 := by kernel_rfl
  i3 := by kernel_rfl
  i4 := by kernel_rfl
  i5 := by kernel_rfl
  i9 := by kernel_rfl
  i20 := by kernel_rfl
  i21 := by kernel_rfl
  i37 := by kernel_rfl
  i46 := by kernel_rfl
  i51 := by kernel_rfl
  i53 := by kernel_rfl
  i75 := by kernel_rfl
  i80 := by kernel_rfl
  i85 := by kernel_rfl
  i127 := by kernel_rfl
  i143 := by kernel_rfl
  i145 := by kernel_rfl
  i167 := by kernel_rfl
  i168 := by kernel_rfl
  i171 := by kernel_rfl
  i173 := by kernel_rfl
  i175 := by kernel_rfl
  i210 := by kernel_rfl
  i212 := by kernel_rfl
  i232 := by kernel_rfl
  i233 := by kernel_rfl
  m15 := by kernel_rfl
  m16 := by kernel_rfl
  m17 := by kernel_rfl
  m18 := by kernel_rfl
  m19 := by kernel_rfl
  c0 := by kernel_rfl
  c2 := by kernel_rfl
  c3 := by kernel_rfl
  c4 := by kernel_rfl
  c5 := by kernel_rfl
  c9 := by kernel_rfl
  c20 := by kernel_rfl
  c21 := by kernel_rfl
  c37 := by kernel_rfl
  c46 := by kernel_rfl
  c51 := by kernel_rfl
  c53 := by kernel_rfl
  c75 := by kernel_rfl
  c80 := by kernel_rfl
  c85 := by kernel_rfl
  c127 := by kernel_rfl
  c143 := by kernel_rfl
  c145 := by kernel_rfl
  c167 := by kernel_rfl
  c168 := by kernel_rfl
  c171 := by kernel_rfl
  c173 := by kernel_rfl
  c175 := by kernel_rfl
  c210 := by kernel_rfl
  c212 := by kernel_rfl
  c213 := by kernel_rfl
  c232 := by kernel_rfl
  c233 := by kernel_rfl }
open Go.RowKit in
theorem Tryz.strconv_ParseInt_10_at64_ok (s : ByteArray) (a : s.size ≤ 9223372036854775806) (v : Int) (h : Lib.parseIntB 64 s.data.toList = .ok v) (w : World) :
    Calls Tryz.prog 54 #[.string s, .int .i64 10, .int .i64 64] w fun e w' => e = .returned (.tuple #[.int .i64 v, .nilIface]) ∧ (w' = w ∨ ∃ t, w' = Lib.bytesWorld w 5 t):= Any.strconv_ParseInt_10_at64_ok Tryz.aF s a v h w
def Tryz.fD : Go.Shelf.Ren := ⟨fun | 144 => 126 | 143 => 147 | 219 => 156 | 217 => 164 | 225 => 165 | 224 => 166 | 267 => 167 | 266 => 177 | 314 => 178 | n => n, fun | 9 => 9 | 4 => 4 | 3 => 3 | 5 => 5 | 46 => 230 | 146 => 291 | 51 => 290 | n => n, fun | 1 => 2 | n => n⟩
theorem Tryz.rG : Go.Proofs.Lays.n144 Tryz.prog Tryz.fD := {
  mixed := by kernel_rfl
  f143 := Tryz.func147.trans (congrArg some (by kernel_rfl))
  f144 := Tryz.func126.trans (congrArg some (by kernel_rfl))
  f217 := Tryz.func164.trans (congrArg some (by kernel_rfl))
  f219 := Tryz.func156.trans (congrArg some (by kernel_rfl))
  f224 := Tryz.func166.trans (congrArg some (by kernel_rfl))
  f225 := Tryz.func165.trans (congrArg some (by kernel_rfl))
  f266 := Tryz.func177.trans (congrArg some (by kernel_rfl))
  f267 := Tryz.func167.trans (congrArg some (by kernel_rfl))
  f314 := Tryz.func178.trans (congrArg some (by kernel_rfl))
  t3 := Tryz.underlying3
  a3 := Tryz.isAgg3
  z3 := Tryz.sizeOf3
  v3 := Tryz.zeroValue3
  t4 := Tryz.underlying4
  a4 := Tryz.isAgg4
  z4 := Tryz.sizeOf4
  v4 := Tryz.zeroValue4
  t5 := Tryz.underlying5
  a5 := Tryz.isAgg5
  z5 := Tryz.sizeOf5
  v5 := Tryz.zeroValue5
  t9 := Tryz.underlying9
  a9 := Tryz.isAgg9
  z9 := Tryz.sizeOf9
  v9 := Tryz.zeroValue9
  t46 := Tryz.underlying230
  a46 := Tryz.isAgg230
  z46 := Tryz.sizeOf230
  v46 := Tryz.zeroValue230
  t51 := Tryz.underlying290
  a51 := Tryz.isAgg290
  z51 := Tryz.sizeOf290
  v51 := Tryz.zeroValue290
  t146 := Tryz.underlying291
  a146 := Tryz.isAgg291
  z146 := Tryz.sizeOf291
  v146 := Tryz.zeroValue291
  g1 := by kernel_rfl }
open Go.RowKit Go.Lib in
theorem Tryz.strings_Contains (s sub : ByteArray) (m : Int) (w : World) (a : s.size < 4294967281) (hm : w.cell? ⟨2, 0, none⟩ = some (.int .i64 m)) :
    Calls Tryz.prog 126 #[.string s, .string sub] w fun e w' => e = .returned (.bool (Lib.contains s.data.toList sub.data.toList)) ∧ w' = w := Any.strings_Contains Tryz.rG s sub m w a hm
def Tryz.gD : Go.Shelf.Ren := ⟨fun | 107 => 116 | 108 => 141 | n => n, fun | 28 => 27 | 3 => 3 | 4 => 4 | 0 => 0 | n => n, fun | n => n⟩
theorem Tryz.zB : Go.Proofs.Lays.n107 Tryz.prog Tryz.gD := {
  mixed := by kernel_rfl
  f107 := Tryz.func116.trans (congrArg some (by kernel_rfl))
  f108 := Tryz.func141.trans (congrArg some (by kernel_rfl))
  t0 := Tryz.underlying0
  a0 := Tryz.isAgg0
  z0 := Tryz.sizeOf0
  v0 := Tryz.zeroValue0
  t3 := Tryz.underlying3
  a3 := Tryz.isAgg3
  z3 := Tryz.sizeOf3
  v3 := Tryz.zeroValue3
  t4 := Tryz.underlying4
  a4 := Tryz.isAgg4
  z4 := Tryz.sizeOf4
  v4 := Tryz.zeroValue4
  t28 := Tryz.underlying27
  a28 := Tryz.isAgg27
  z28 := Tryz.sizeOf27
  v28 := Tryz.zeroValue27 }
open Go.Lib in
theorem Tryz.slices_Contains_int (b off n c : Nat) (a : List Int) (x : Int) (w : World) (d : n ≤ a.length) (f : n ≤ 9223372036854775807) (hc : ∀ j, j < a.length → w.cell? ⟨b, off + j, none⟩ = some (.int .i64 (a.getD j 0))) :
    Calls Tryz.prog 116 #[.slice (some ⟨b, off, none⟩) n c, .int .i64 x] w fun e w' => e = .returned (.bool ((a.take n).contains x)) ∧ w' = w := Any.slices_Contains_int Tryz.zB b off n c a x w d f hc
open Go.Lib in
theorem Tryz.slices_Contains_int_empty (a : Option Addr) (c : Nat) (x : Int) (w : World) :
    Calls Tryz.prog 116 #[.slice a 0 c, .int .i64 x] w fun e w' => e = .returned (.bool false) ∧ w' = w := Any.slices_Contains_int_empty Tryz.zB a c x w
def Tryz.hD : Go.Shelf.Ren := ⟨fun | 110 => 102 | 109 => 134 | n => n, fun | 31 => 188 | 9 => 9 | 4 => 4 | 3 => 3 | 0 => 0 | n => n, fun | n => n⟩
theorem Tryz.AB : Go.Proofs.Lays.n110 Tryz.prog Tryz.hD := {
  mixed := by kernel_rfl
  f109 := Tryz.func134.trans (congrArg some (by kernel_rfl))
  f110 := Tryz.func102.trans (congrArg some (by kernel_rfl))
  t0 := Tryz.underlying0
  a0 := Tryz.isAgg0
  z0 := Tryz.sizeOf0
  v0 := Tryz.zeroValue0
  t3 := Tryz.underlying3
  a3 := Tryz.isAgg3
  z3 := Tryz.sizeOf3
  v3 := Tryz.zeroValue3
  t4 := Tryz.underlying4
  a4 := Tryz.isAgg4
  z4 := Tryz.sizeOf4
  v4 := Tryz.zeroValue4
  t9 := Tryz.underlying9
  a9 := Tryz.isAgg9
  z9 := Tryz.sizeOf9
  v9 := Tryz.zeroValue9
  t31 := Tryz.underlying188
  a31 := Tryz.isAgg188
  z31 := Tryz.sizeOf188
  v31 := Tryz.zeroValue188 }
open Go.Lib in
theorem Tryz.slices_Contains_string (b off n c : Nat) (a : List ByteArray) (x : ByteArray) (w : World) (d : n ≤ a.length) (f : n ≤ 9223372036854775807) (hc : ∀ j, j < a.length → w.cell? ⟨b, off + j, none⟩ = some (.string (a.getD j ByteArray.empty))) :
    Calls Tryz.prog 102 #[.slice (some ⟨b, off, none⟩) n c, .string x] w fun e w' => e = .returned (.bool (Lib.containsS (a.take n) x)) ∧ w' = w := Any.slices_Contains_string Tryz.AB b off n c a x w d f hc
open Go.Lib in
theorem Tryz.slices_Contains_string_empty (a : Option Addr) (c : Nat) (x : ByteArray) (w : World) :
    Calls Tryz.prog 102 #[.slice a 0 c, .string x] w fun e w' => e = .returned (.bool false) ∧ w' = w := Any.slices_Contains_string_empty Tryz.AB a c x w
def Tryz.LC : Go.Shelf.Ren := ⟨fun | 15 => 109 | n => n, fun | 22 => 27 | 3 => 3 | 4 => 4 | n => n, fun | n => n⟩
theorem Tryz.ax : Go.Proofs.Lays2.n15 Tryz.prog Tryz.LC := {
  mixed := by kernel_rfl
  f15 := Tryz.func109.trans (congrArg some (by kernel_rfl))
  t3 := Tryz.underlying3
  a3 := Tryz.isAgg3
  z3 := Tryz.sizeOf3
  v3 := Tryz.zeroValue3
  t4 := Tryz.underlying4
  a4 := Tryz.isAgg4
  z4 := Tryz.sizeOf4
  v4 := Tryz.zeroValue4
  t22 := Tryz.underlying27
  a22 := Tryz.isAgg27
  z22 := Tryz.sizeOf27
  v22 := Tryz.zeroValue27
  i3 := by kernel_rfl }
open Go.RowKit Go.Lib in
theorem Tryz.slices_Clone_int (b off n c : Nat) (a : List Int) (w : World) (f : n ≤ a.length) (g : n * 8 ≤ 140737488355328) (hc : ∀ j, j < a.length → w.cell? ⟨b, off + j, none⟩ = some (.int .i64 (a.getD j 0))) :
    Calls Tryz.prog 109 #[.slice (some ⟨b, off, none⟩) n c] w fun e w' => ∃ d, e = .returned d ∧ w'.ownsRow w.heap.size 3 1 d n ((a.take n).map (Value.int .i64)) ∧ d ≠ .slice none 0 0 ∧ Below w.heap.size w w' := Any.slices_Clone_int Tryz.ax b off n c a w f g hc
open Go.RowKit Go.Lib in
theorem Tryz.slices_Clone_int_nil (n c : Nat) (w : World) :
    Calls Tryz.prog 109 #[.slice none n c] w fun e w' => e = .returned (.slice none 0 0) ∧ w' = w := Any.slices_Clone_int_nil Tryz.ax n c w
open Go.RowKit Go.Lib in
theorem Tryz.slices_Clone_int_zero (a : Addr) (c : Nat) (w : World) :
    Calls Tryz.prog 109 #[.slice (some a) 0 c] w fun e w' => ∃ b, e = .returned b ∧ w'.ownsRow w.heap.size 3 1 b 0 [] ∧ b ≠ .slice none 0 0 ∧ Below w.heap.size w w' := Any.slices_Clone_int_zero Tryz.ax a c w
def Tryz.FC : Go.Shelf.Ren := ⟨fun | 41 => 110 | n => n, fun | 22 => 169 | 23 => 4 | 4 => 4 | n => n, fun | n => n⟩
theorem Tryz.Fz : Go.Proofs.SlLaysE0.n41 Tryz.prog Tryz.FC := {
  mixed := by kernel_rfl
  f41 := ⟨Tryz.f110.name, by decide, Tryz.func110.trans (congrArg some (by kernel_rfl))⟩
  t4 := Tryz.underlying4
  a4 := Tryz.isAgg4
  z4 := Tryz.sizeOf4
  v4 := Tryz.zeroValue4
  t22 := Tryz.underlying169
  a22 := Tryz.isAgg169
  z22 := Tryz.sizeOf169
  v22 := Tryz.zeroValue169 }
open Go.RowKit Go.Lib in
theorem Tryz.HC (i0 : TypeInfo) (z : Value) (size bytes : Nat) (eb : Tryz.prog.info? 4 = some i0) (d : i0.zero = some z) (f : i0.size = size) (g : i0.bytes = bytes) (h : z.cells.size = size) (i : 0 < size) (z23 : ∀ w, (Go.sizeOf 4).run Tryz.prog w = .ok size w) (b off n c : Nat) (news : List Value) (w : World) (k : news.length = n * size) (l : n ≤ maxLen) (m : n * bytes ≤ 140737488355328) (hc : ∀ j u, news[j]? = some u → w.cell? ⟨b, off + j, none⟩ = some u) (o : ∀ u ∈ news, u.oneCell' = true) :
    Calls Tryz.prog 110 #[.slice (some ⟨b, off, none⟩) n c] w fun e w' => ∃ a, e = .returned a ∧ w'.ownsRow w.heap.size 4 size a n news ∧ a ≠ .slice none 0 0 ∧ Below w.heap.size w w' := AnyE.slices_Clone Tryz.Fz i0 z size bytes eb d f g h i z23 b off n c news w k l m hc o
open Go.RowKit Go.Lib in
theorem Tryz.EC (n c : Nat) (w : World) :
    Calls Tryz.prog 110 #[.slice none n c] w fun e w' => e = .returned (.slice none 0 0) ∧ w' = w := AnyE.slices_Clone_nil Tryz.Fz n c w
end Go.Proofs
namespace Go.Proofs.YthdpoglpdpfnbaaGreatDoor
open Go.vc Go.hd Go.Y Tryz
def ib : M := fun w => ∃ m, w.cell? ⟨2, 0, none⟩ = some (.int .i64 m)
theorem LH {E : M}{w0 w : World}{J : List Eb}{l : List UInt8}{r : Int}(g : dz l = some r) (b : la E w0 w J) :
    zb prog 54 [S l, .int .i64 10, .int .i64 64] w (fun v w' => v = .tuple ⟨[.int .i64 r, .nilIface]⟩ ∧ la E w0 w' J):= by
  unfold dz at g;split at g
  · rename_i c;cases a : Lib.parseIntB 64 l with
    | ok v =>
      rw [a] at g;obtain rfl := Option.some.inj g;refine ⟨(strconv_ParseInt_10_at64_ok ⟨⟨l⟩⟩ c v a w).mono fun e w' he => ?_⟩;obtain ⟨rfl, hw⟩ := he;refine ⟨rfl, ?_⟩;rcases hw with rfl | ⟨t, rfl⟩
      · exact b
      · have h := Lib.bytesWorld_below w 5 t;exact b.grow ⟨h.os, h.tape, h.output, h.size, fun k d _ => h.block k d⟩
    | _ => rw [a] at g; cases g
  · cases g
theorem sG {E : M}{w0 w : World}{J : List Eb}{l sub : List UInt8}{b : Bool}(d : ga ib E) (g : yy l sub = some b) (c : la E w0 w J) :
    zb prog 126 [S l, S sub] w (fun v w' => v = .bool b ∧ la E w0 w' J):= by
  unfold yy at g;split at g
  · rename_i f;obtain rfl := Option.some.inj g;obtain ⟨m, hm⟩ := d w c.a;refine ⟨(strings_Contains ⟨⟨l⟩⟩ ⟨⟨sub⟩⟩ m w f hm).mono fun e w' he => ?_⟩;obtain ⟨rfl, rfl⟩ := he;exact ⟨rfl, c⟩
  · cases g
end Go.Proofs.YthdpoglpdpfnbaaGreatDoor
namespace Go.Proofs.YthdpoglpdpfnbaaGreatDoor
open Go.vc Go.hd Go.Y Go.RowKit Tryz
section
variable {μ E : M}{w0 w : World}{J rs : List Eb}
def mq (w : World) (v : Value) (vs : List Value) : Prop := (vs = [] ∧ ∃ a c, v = .slice a 0 c) ∨ ∃ b o c, v = .slice (some ⟨b, o, none⟩) vs.length c ∧ vs.length ≤ 9223372036854775807 ∧ ∀ j y, vs[j]? = some y → w.cell? ⟨b, o + j, none⟩ = some y
theorem MA {α : Type}[Ua α]{f : α → Value}(a : ∀ (μ : M) (l : List Value) (x : α), Ua.cs μ l x → l = [f x]) : ∀ {l : List α}{cells : List Value}, ma μ cells l → cells = l.map f
  | [], cells, h => by rw [ma] at h; simp [h]
  | x :: l, cells, h => by
    rw [ma] at h;obtain ⟨cs, t, rfl, b, c⟩ := h;rw [a _ _ _ b, MA a c];rfl
theorem Jp {α : Type}[Ua α]{f : α → Value}(c : ∀ (μ : M) (l : List Value) (x : α), Ua.cs μ l x → l = [f x]){v : Value}{T : TypeId}{l : List α}{cells : List Value}(h : Row w v T 1 l.length cells) (d : ma μ cells l) : mq w v (l.map f):= by
  have e := MA c d;subst e;rcases h.2 with ⟨rfl, b⟩ | ⟨g, o, cap, cur, rfl, i, k, b, n, m⟩
  · exact .inl ⟨by rw [List.length_eq_zero_iff.1 b];rfl, none, 0, rfl⟩
  · refine .inr ⟨g, o, cap, by simp, by simp;exact Nat.le_trans k (Nat.le_trans b (by decide)), fun j y a => ?_⟩;rw [cell_of_row w g (o + j) cur T (0, 0) i];rw [← m, List.getElem?_take] at a;split at a
    · rw [List.getElem?_drop] at a;simpa using a
    · cases a
theorem Tp {α : Type}[Ua α]{f : α → Value}(g : ∀ (μ : M) (l : List Value) (x : α), Ua.cs μ l x → l = [f x]) (i : Ua.sz α = 1){a : Option Addr}{c : Nat}{l : List α}(h : va μ a c l) (hw : μ w) : mq w (.slice a l.length c) (l.map f):= by
  rcases h.el with rfl | ⟨b, o, rfl, p, k⟩
  · exact .inl ⟨rfl, a, c, rfl⟩
  · refine .inr ⟨b, o, c, by simp, by simp;exact va.len h, fun j y d => ?_⟩;simp only [List.getElem?_map, Option.map_eq_some_iff] at d;obtain ⟨x, m, rfl⟩ := d;obtain ⟨e, n⟩ := k j x m;rw [g _ _ _ n, i] at e;have := e w hw 0 _ rfl;simpa using this
theorem tz (μ : M) (l : List Value) (x : List UInt8) (h : Ua.cs μ l x) : l = [S x]:= h
theorem Vr (μ : M) (l : List Value) (x : Int) (h : Ua.cs μ l x) : l = [.int .i64 x]:= h
theorem ew {v : Value}{l : List (List UInt8)}{x : List UInt8}(h : mq w v (l.map S)) : zb prog 102 [v, S x] w (fun v w' => v = .bool (l.contains x) ∧ w' = w):= by
  rcases h with ⟨f, a, c, rfl⟩ | ⟨b, o, c, rfl, g, hc⟩
  · obtain rfl : l = []:= List.map_eq_nil_iff.1 f;exact ⟨(slices_Contains_string_empty a c ⟨⟨x⟩⟩ w).mono fun e w' he => by
      obtain ⟨rfl, rfl⟩ := he;exact ⟨rfl, rfl⟩⟩
  · refine ⟨(slices_Contains_string b o (l.map S).length c (l.map fun y => ⟨⟨y⟩⟩) ⟨⟨x⟩⟩ w (by simp) g ?_).mono fun e w' he => ?_⟩
    · intro j i;have d : j < l.length := by simpa using i
      rw [hc j (S l[j]) (by simp [d])];simp [List.getElem?_eq_getElem d, S]
    · obtain ⟨rfl, rfl⟩ := he;refine ⟨?_, rfl⟩;congr 1;rw [List.take_of_length_le (by simp), Bool.eq_iff_iff, Lib.containsS_iff, List.contains_iff_mem];constructor
      · intro hm;obtain ⟨y, m, e⟩ := List.mem_map.1 hm;have k : y = x := congrArg (fun b : ByteArray => b.data.toList) e;rwa [← k]
      · exact fun hm => List.mem_map.2 ⟨x, hm, rfl⟩
theorem SC {v : Value}{l : List Int}{x : Int}(h : mq w v (l.map (Value.int .i64))) : zb prog 116 [v, .int .i64 x] w (fun v w' => v = .bool (l.contains x) ∧ w' = w):= by
  rcases h with ⟨f, a, c, rfl⟩ | ⟨b, o, c, rfl, g, hc⟩
  · obtain rfl : l = []:= List.map_eq_nil_iff.1 f;exact ⟨(slices_Contains_int_empty a c x w).mono fun e w' he => by
      obtain ⟨rfl, rfl⟩ := he;exact ⟨rfl, rfl⟩⟩
  · refine ⟨(slices_Contains_int b o (l.map (Value.int .i64)).length c l x w (by simp) g ?_).mono fun e w' he => ?_⟩
    · intro j d;rw [hc j (.int .i64 l[j]) (by simp [d])];simp [List.getElem?_eq_getElem d]
    · obtain ⟨rfl, rfl⟩ := he;refine ⟨?_, rfl⟩;rw [List.take_of_length_le (by simp)]
theorem gu {v : Value}{l : List Int}(r : l.length ≤ 65536) (h : mq w v (l.map (Value.int .i64))) (i : la E w0 w rs) :
    zb prog 109 [v] w (fun m w' => la E w0 w' (.row m 3 1 l.length (l.map (Value.int .i64)):: rs)):= by
  rcases h with ⟨q, a, c, rfl⟩ | ⟨b, o, c, rfl, s, hc⟩
  · obtain rfl : l = []:= List.map_eq_nil_iff.1 q;cases a with
    | none => exact ⟨(slices_Clone_int_nil 0 c w).mono fun e w' he => by
        obtain ⟨rfl, rfl⟩ := he;exact i.Oh 3 1⟩
    | some a => exact ⟨(slices_Clone_int_zero a c w).mono fun e w' he => by
        obtain ⟨m, rfl, g, -, d⟩ := he;obtain ⟨n, f⟩ := gw g;exact i.newRow ⟨d.os, d.tape, d.output, d.size, fun k f _ => d.block k f⟩ n f⟩
  · refine ⟨(slices_Clone_int b o (l.map (Value.int .i64)).length c l w (by simp) (by simp;omega) ?_).mono fun e w' he => ?_⟩
    · intro j p;rw [hc j (.int .i64 l[j]) (by simp [p])];simp [List.getElem?_eq_getElem p]
    · obtain ⟨m, rfl, g, -, d⟩ := he;rw [List.take_of_length_le (by simp), List.length_map] at g;obtain ⟨n, f⟩ := gw g;exact i.newRow ⟨d.os, d.tape, d.output, d.size, fun k f _ => d.block k f⟩ n f
theorem iu {v : Value}{l : List Bool}(C : l.length ≤ 65536) (h : mq w v (l.map Value.bool)) (d : la E w0 w rs) :
    zb prog 110 [v] w (fun s w' => la E w0 w' (.row s 4 1 l.length (l.map Value.bool):: rs)):= by
  rcases h with ⟨f, a, c, rfl⟩ | ⟨b, o, c, rfl, D, hc⟩
  · obtain rfl : l = []:= List.map_eq_nil_iff.1 f;cases a with
    | none => exact ⟨(EC 0 c w).mono fun e w' he => by
        obtain ⟨rfl, rfl⟩ := he;exact d.Oh 4 1⟩
    | some a =>
      refine enter func110 rfl (frm := [_, _, _, _, _, _, _, _]) rfl ?_;refine Fa ?_;refine Oa ?_;refine wl (Qi xa (ha Ta) ?_);refine Ia ?_;refine oa ?_;refine Fa ?_;refine Fa ?_;refine Oa ?_;refine wl (th (aa d0) (ha Bb) ?_);refine wl (KF underlying169 (aa d3) (ha xb) ?_);refine Ia ?_;refine oa ?_;refine sl (aa d4) ?_;refine Na ?_;refine oa ?_;refine Fa ?_;refine Oa ?_;refine wl (ZG underlying169 Zj d ?_);clear d;intro gg F G d;refine pu (ha dc) ?_;replace d := d.En (n := 0) (sz := Ua.sz Bool) d0 rfl (by decide) ya;refine wl (th (aa d0) (ha ec) ?_);refine wl (Xu (α := Bool) (l := []) (ys := []) (news := []) underlying169 Zj rfl (aa d5) (aa d6) d d0 (fun e => absurd rfl e) rfl (show app [] [] = some [] from rfl) (by decide) ?_);clear d;intro v2 H y A d;cases (show _ = y from A);replace d := Sep.Qe d ya;refine pu (ha Gb) ?_;refine wl (Qi (aa d7) (ha Ta) ?_);refine Ia ?_;refine oa ?_;refine db ?_;refine ic rfl d2 ?_;exact d
  · have eb : ∃ i z, prog.info? 4 = some i ∧ i.zero = some z ∧ i.size = 1 ∧ i.bytes = 1 ∧ z.cells.size = 1 := by
      obtain ⟨i, z, f, j, m, p, q⟩ := (Zj).inf;exact ⟨i, z, f, j, p, q, by rw [m];rfl⟩
    obtain ⟨i, z, f, j, m, p, q⟩ := eb;refine ⟨(HC i z 1 1 f j m p q (by decide) (fun w => (Zj).sizeOf) b o (l.map Value.bool).length c (l.map Value.bool) w (by simp) (by simp [maxLen];omega) (by simp;omega) hc (fun u hu => ?_)).mono fun e w' he => ?_⟩
    · obtain ⟨x, -, rfl⟩ := List.mem_map.1 hu;rfl
    · obtain ⟨s, rfl, t, -, g⟩ := he;rw [List.length_map] at t;obtain ⟨B, r⟩ := gw t;exact d.newRow ⟨g.os, g.tape, g.output, g.size, fun k r _ => g.block k r⟩ B r
theorem nv (μ : M) (l : List Value) (x : Bool) (h : Ua.cs μ l x) : l = [.bool x]:= h
theorem wm {α : Type}[Ua α]{f : α → Value}(a : ∀ (μ : M) (x : α), Ua.cs μ [f x] x) : ∀ (l : List α), ma μ (l.map f) l
  | [] => rfl
  | x :: l => ⟨[f x], _, rfl, a μ x, wm a l⟩
end
end Go.Proofs.YthdpoglpdpfnbaaGreatDoor
