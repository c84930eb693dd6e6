/- The shelf: texts of Fl. -/
import Derived.Test.YthdpoglpdpfnbaaGreatDoorCXt
import Derived.Test.YthdpoglpdpfnbaaGreatDoorProg
import Derived.KernelRfl
import Derived.Shelf.Strconv.Itoa0
import Derived.Shelf.Strconv.Itoa1
import Derived.Shelf.LaysM
import Derived.Shelf.Strconv.Itoa2
import Derived.Shelf.Strconv.Itoa3
import Derived.Shelf.Strconv.ParseIntEmpty
import Derived.Shelf.Strconv.Clone
import Derived.Shelf.Strconv.SyntaxError
import Derived.Shelf.LaysC
import Derived.Shelf.Strconv.ToError
import Derived.Shelf.Strconv.Lower
import Derived.Shelf.Strconv.ParseUint10
import Derived.Shelf.Strconv.ParseUint10Empty
import Derived.Shelf.Strconv.ParseUint10Any
import Derived.Shelf.Strconv.ParseInt10
import Derived.Shelf.Strconv.RangeError
import Derived.Shelf.Strconv.ToErrorRange
import Derived.Shelf.Strconv.ParseUintEmpty
import Derived.Shelf.Strconv.ParseUint10b64
import Derived.Shelf.Strconv.ParseUint10b32
import Derived.Shelf.Strconv.ParseUint10b16
import Derived.Shelf.Strconv.ParseUint10b8
import Derived.Shelf.Strconv.ParseUint10At
import Derived.Shelf.Strconv.ParseInt10At64
import Derived.Shelf.Strconv.ParseInt10At32
import Derived.Shelf.Strconv.ParseInt10At16
import Derived.Shelf.Strconv.ParseInt10At8
import Derived.Shelf.Strconv.ParseInt10All
import Derived.Shelf.Strconv.ParseIntPublic10
import Derived.Shelf.Strings.Search1
import Derived.Shelf.Strings.Search2
import Derived.Shelf.Strings.Search3
import Derived.Shelf.Strings.Shaped
import Derived.Shelf.Slices.Turned
import Derived.Ground.Names2Prog
import Derived.Shelf.Slices.Clone
import Derived.Ground.SlgnProg
import Derived.Shelf.SlicesE.Clone
import Derived.Test.YthdpoglpdpfnbaaGreatDoorCMd
import Derived.Test.YthdpoglpdpfnbaaGreatDoorCXu
import Derived.Lib.SlicesS
set_option linter.unusedSimpArgs false
set_option linter.unusedVariables false
set_option linter.unusedSectionVars false
namespace Go.Proofs.YthdpoglpdpfnbaaGreatDoor
open Go.vc Go.jd Tryz
instance xM : Ob prog 7 := cc func7
instance yM : Ob prog 8 := cc func8
instance zM : Ob prog 9 := cc func9
instance qH : Ob prog 10 := cc func10
instance UK : Ob prog 11 := cc func11
instance VK : Ob prog 12 := cc func12
instance WK : Ob prog 13 := cc func13
instance XK : Ob prog 14 := cc func14
instance YK : Ob prog 15 := cc func15
instance ZK : Ob prog 16 := cc func16
instance aL : Ob prog 17 := cc func17
instance bL : Ob prog 18 := cc func18
instance rH : Ob prog 19 := cc func19
instance sH : Ob prog 20 := cc func20
instance cL : Ob prog 21 := cc func21
instance tH : Ob prog 22 := cc func22
instance uH : Ob prog 23 := cc func23
instance dL : Ob prog 24 := cc func24
instance vH : Ob prog 25 := cc func25
instance eL : Ob prog 27 := cc func27
instance wH : Ob prog 28 := cc func28
instance fL : Ob prog 29 := cc func29
instance gL : Ob prog 30 := cc func30
instance No : Ob prog 31 := cc func31
instance hL : Ob prog 32 := cc func32
instance iL : Ob prog 33 := cc func33
instance jL : Ob prog 34 := cc func34
instance kL : Ob prog 35 := cc func35
instance RB : Ob prog 36 := cc func36
instance xH : Ob prog 37 := cc func37
instance SB : Ob prog 38 := cc func38
instance TB : Ob prog 39 := cc func39
instance sy : Ob prog 40 := cc func40
instance lL : Ob prog 42 := cc func42
instance mL : Ob prog 43 := cc func43
instance nL : Ob prog 44 := cc func44
instance oL : Ob prog 45 := cc func45
instance pL : Ob prog 46 := cc func46
instance qL : Ob prog 47 := cc func47
instance rL : Ob prog 48 := cc func48
instance sL : Ob prog 49 := cc func49
instance yH : Ob prog 50 := cc func50
instance hv : Ob prog 51 := cc func51
instance zH : Ob prog 52 := cc func52
instance UB : Ob prog 53 := cc func53
instance AH : Ob prog 54 := cc func54
instance tL : Ob prog 55 := cc func55
instance uL : Ob prog 56 := cc func56
instance vL : Ob prog 57 := cc func57
instance wL : Ob prog 58 := cc func58
instance xL : Ob prog 59 := cc func59
instance yL : Ob prog 60 := cc func60
instance zL : Ob prog 61 := cc func61
instance AL : Ob prog 62 := cc func62
instance BL : Ob prog 63 := cc func63
instance CL : Ob prog 64 := cc func64
instance BH : Ob prog 65 := cc func65
instance DL : Ob prog 66 := cc func66
instance VB : Ob prog 67 := cc func67
instance iv : Ob prog 68 := cc func68
instance EL : Ob prog 69 := cc func69
instance FL : Ob prog 70 := cc func70
instance GL : Ob prog 71 := cc func71
instance CH : Ob prog 72 := cc func72
instance HL : Ob prog 73 := cc func73
instance WB : Ob prog 74 := cc func74
instance DH : Ob prog 75 := cc func75
instance EH : Ob prog 76 := cc func76
instance FH : Ob prog 77 := cc func77
instance GH : Ob prog 78 := cc func78
instance IL : Ob prog 79 := cc func79
instance JL : Ob prog 80 := cc func80
instance XB : Ob prog 81 := cc func81
instance HH : Ob prog 82 := cc func82
instance IH : Ob prog 83 := cc func83
instance KL : Ob prog 84 := cc func84
instance LL : Ob prog 85 := cc func85
instance JH : Ob prog 86 := cc func86
instance ML : Ob prog 87 := cc func87
instance NL : Ob prog 88 := cc func88
instance KH : Ob prog 89 := cc func89
instance OL : Ob prog 92 := cc func92
instance PL : Ob prog 93 := cc func93
instance Br : Ob prog 94 := cc func94
instance QL : Ob prog 95 := cc func95
instance RL : Ob prog 96 := cc func96
instance SL : Ob prog 97 := cc func97
instance TL : Ob prog 98 := cc func98
instance UL : Ob prog 99 := cc func99
instance vJ : Ob prog 100 := cc func100
instance cG : Ob prog 101 := cc func101
instance ay : Ob prog 102 := cc func102
instance wJ : Ob prog 103 := cc func103
instance dG : Ob prog 104 := cc func104
instance eG : Ob prog 105 := cc func105
instance fG : Ob prog 106 := cc func106
instance gG : Ob prog 108 := cc func108
instance Ou : Ob prog 109 := cc func109
instance Pu : Ob prog 110 := cc func110
instance rB : Ob prog 111 := cc func111
instance sB : Ob prog 112 := cc func112
instance xJ : Ob prog 113 := cc func113
instance yJ : Ob prog 114 := cc func114
instance zJ : Ob prog 115 := cc func115
instance hG : Ob prog 116 := cc func116
instance AJ : Ob prog 117 := cc func117
instance tB : Ob prog 118 := cc func118
instance BJ : Ob prog 119 := cc func119
instance CJ : Ob prog 125 := cc func125
instance iG : Ob prog 126 := cc func126
instance jG : Ob prog 127 := cc func127
instance bq : Ob prog 128 := cc func128
instance uB : Ob prog 129 := cc func129
instance DJ : Ob prog 130 := cc func130
instance kG : Ob prog 131 := cc func131
instance lG : Ob prog 132 := cc func132
instance EJ : Ob prog 133 := cc func133
instance FJ : Ob prog 135 := cc func135
instance mG : Ob prog 136 := cc func136
instance GJ : Ob prog 137 := cc func137
instance HJ : Ob prog 138 := cc func138
instance IJ : Ob prog 139 := cc func139
instance JJ : Ob prog 140 := cc func140
instance nG : Ob prog 148 := cc func148
instance KJ : Ob prog 149 := cc func149
instance LJ : Ob prog 150 := cc func150
instance Qu : Ob prog 151 := cc func151
instance Zf : Ob prog 152 := cc func152
instance MJ : Ob prog 153 := cc func153
instance NJ : Ob prog 154 := cc func154
instance OJ : Ob prog 157 := cc func157
instance PJ : Ob prog 158 := cc func158
instance QJ : Ob prog 159 := cc func159
instance vB : Ob prog 160 := cc func160
instance oG : Ob prog 161 := cc func161
instance pG : Ob prog 162 := cc func162
instance RJ : Ob prog 168 := cc func168
instance SJ : Ob prog 169 := cc func169
instance TJ : Ob prog 170 := cc func170
instance ng : Ob prog 171 := cc func171
instance qG : Ob prog 172 := cc func172
instance UJ : Ob prog 179 := cc func179
instance VJ : Ob prog 180 := cc func180
instance vr : Ob prog 181 := cc func181
instance WJ : Ob prog 183 := cc func183
instance XJ : Ob prog 184 := cc func184
instance rG : Ob prog 207 := cc func207
instance sG : Ob prog 210 := cc func210
instance ch : Nc prog 2 false [.int .i64 0] 1 8 := qe (z := .int .i64 0) underlying2
instance ib : Nc prog 3 false [.int .i64 0] 1 8 := qe (z := .int .i64 0) underlying3
instance bk : Nc prog 4 false [.bool false] 1 1 := qe (z := .bool false) underlying4
instance Td : Nc prog 9 false [S []] 1 16 := qe (z := S []) underlying9
instance Ei : Nc prog 22 false [.slice none 0 0] 1 24 := qe (z := .slice none 0 0) underlying22
instance Ur : Nc prog 26 false [.slice none 0 0] 1 24 := qe (z := .slice none 0 0) underlying26
instance Fi : Nc prog 27 false [.slice none 0 0] 1 24 := qe (z := .slice none 0 0) underlying27
instance Pm : Nc prog 29 true [.int .i64 0, .int .i64 0, .int .i64 0, .slice none 0 0, .slice none 0 0, .slice none 0 0, .int .i64 0] 7 104 := qe (z := .agg #[.int .i64 0, .int .i64 0, .int .i64 0, .slice none 0 0, .slice none 0 0, .slice none 0 0, .int .i64 0]) underlying29
instance Vr : Nc prog 30 false [.int .i64 0] 1 8 := qe (z := .int .i64 0) underlying30
instance Xo : Nc prog 34 false [.slice none 0 0] 1 24 := qe (z := .slice none 0 0) underlying34
instance Ak : Nc prog 35 false [.slice none 0 0] 1 24 := qe (z := .slice none 0 0) underlying35
instance Bk : Nc prog 37 true [.slice none 0 0, .slice none 0 0] 2 48 := qe (z := .agg #[.slice none 0 0, .slice none 0 0]) underlying37
instance Wn : Nc prog 43 false [.slice none 0 0] 1 24 := qe (z := .slice none 0 0) underlying43
instance tg : Nc prog 45 true [.int .i64 0, .int .i64 0] 2 16 := qe (z := .agg #[.int .i64 0, .int .i64 0]) underlying45
instance Vi : Nc prog 51 true [.int .i64 0, .int .i64 0, .int .i64 0] 3 24 := qe (z := .agg #[.int .i64 0, .int .i64 0, .int .i64 0]) underlying51
instance Yj : Nc prog 54 false [.pointer none] 1 8 := qe (z := .pointer none) underlying54
instance Xn : Nc prog 56 true [.int .i64 0, .int .i64 0] 2 16 := qe (z := .agg #[.int .i64 0, .int .i64 0]) underlying56
instance xC : Nc prog 59 true [.slice none 0 0, .slice none 0 0, .slice none 0 0] 3 72 := qe (z := .agg #[.slice none 0 0, .slice none 0 0, .slice none 0 0]) underlying59
instance nz : Nc prog 64 false [.nilIface] 1 16 := qe (z := .nilIface) underlying64
instance yl : Nc prog 65 false [.slice none 0 0] 1 24 := qe (z := .slice none 0 0) underlying65
instance vi : Nc prog 66 false [.pointer none] 1 8 := qe (z := .pointer none) underlying66
instance VI : Nc prog 67 false [.nilFunc] 1 8 := qe (z := .nilFunc) underlying67
instance WI : Nc prog 69 true [.pointer none, .nilIface, .slice none 0 0, .pointer none, .int .i64 0, .int .i64 0, .int .i64 0, .slice none 0 0, .nilFunc] 9 112 := qe (z := .agg #[.pointer none, .nilIface, .slice none 0 0, .pointer none, .int .i64 0, .int .i64 0, .int .i64 0, .slice none 0 0, .nilFunc]) underlying69
instance oz : Nc prog 70 false [.slice none 0 0] 1 24 := qe (z := .slice none 0 0) underlying70
instance Xg : Nc prog 74 true [S [], S []] 2 32 := qe (z := .agg #[S [], S []]) underlying74
instance cm : Nc prog 76 false [.slice none 0 0] 1 24 := qe (z := .slice none 0 0) underlying76
instance AM : Nc prog 81 false [.pointer none] 1 8 := qe (z := .pointer none) underlying81
instance XI : Nc prog 83 true [.slice none 0 0, .int .i64 0, .int .i64 0] 3 40 := qe (z := .agg #[.slice none 0 0, .int .i64 0, .int .i64 0]) underlying83
instance Fb : Nc prog 87 true [.int .i64 0, S []] 2 24 := qe (z := .agg #[.int .i64 0, S []]) underlying87
instance Wr : Nc prog 88 false [.slice none 0 0] 1 24 := qe (z := .slice none 0 0) underlying88
instance pz : Nc prog 89 false [.slice none 0 0] 1 24 := qe (z := .slice none 0 0) underlying89
instance yg : Nc prog 91 true [.int .i64 0, S [], .int .i64 0, S [], .int .i64 0, S [], .int .i64 0, .slice none 0 0, .slice none 0 0] 9 128 := qe (z := .agg #[.int .i64 0, S [], .int .i64 0, S [], .int .i64 0, S [], .int .i64 0, .slice none 0 0, .slice none 0 0]) underlying91
instance dm : Nc prog 94 false [.pointer none] 1 8 := qe (z := .pointer none) underlying94
instance dj : Nc prog 95 false [.map none] 1 8 := qe (z := .map none) underlying95
instance Yn : Nc prog 96 false [.map none] 1 8 := qe (z := .map none) underlying96
instance YI : Nc prog 98 true [.map none, .map none, .map none] 3 24 := qe (z := .agg #[.map none, .map none, .map none]) underlying98
instance Gi : Nc prog 99 false [.pointer none] 1 8 := qe (z := .pointer none) underlying99
instance zk : Nc prog 101 false [.slice none 0 0] 1 24 := qe (z := .slice none 0 0) underlying101
instance Ph : Nc prog 103 true [.int .i64 0, .int .i64 0, .slice none 0 0, .int .i64 0, .int .i64 0, .slice none 0 0] 6 80 := qe (z := .agg #[.int .i64 0, .int .i64 0, .slice none 0 0, .int .i64 0, .int .i64 0, .slice none 0 0]) underlying103
instance nv : Nc prog 105 false [.pointer none] 1 8 := qe (z := .pointer none) underlying105
instance uI : Nc prog 107 true [.pointer none] 1 8 := qe (z := .agg #[.pointer none]) underlying107
instance Oi : Nc prog 111 false [.slice none 0 0] 1 24 := qe (z := .slice none 0 0) underlying111
instance So : Nc prog 112 false [.pointer none] 1 8 := qe (z := .pointer none) underlying112
instance vI : Nc prog 114 true [.int .i64 0, .pointer none, .slice none 0 0, .pointer none] 4 48 := qe (z := .agg #[.int .i64 0, .pointer none, .slice none 0 0, .pointer none]) underlying114
instance pj : Nc prog 117 true [.int .i64 0, .int .i64 0, .int .i64 0] 3 24 := qe (z := .agg #[.int .i64 0, .int .i64 0, .int .i64 0]) underlying117
instance hi : Nc prog 120 true [.int .i64 0, .int .i64 0, .int .i64 0] 3 24 := qe (z := .agg #[.int .i64 0, .int .i64 0, .int .i64 0]) underlying120
instance Dj : Nc prog 133 true [.int .i64 0, S [], .int .i64 0, .int .i64 0] 4 40 := qe (z := .agg #[.int .i64 0, S [], .int .i64 0, .int .i64 0]) underlying133
instance wI : Nc prog 149 true [.int .i64 0] 1 8 := qe (z := .agg #[.int .i64 0]) underlying149
instance Uy : Nc prog 150 false [.nilFunc] 1 8 := qe (z := .nilFunc) underlying150
instance To : Nc prog 155 false [.slice none 0 0] 1 24 := qe (z := .slice none 0 0) underlying155
instance xI : Nc prog 157 true [.pointer none, .int .i64 0, .int .i64 0, .slice none 0 0, .int .i64 0, .int .i64 0, .slice none 0 0, .slice none 0 0] 8 112 := qe (z := .agg #[.pointer none, .int .i64 0, .int .i64 0, .slice none 0 0, .int .i64 0, .int .i64 0, .slice none 0 0, .slice none 0 0]) underlying157
instance qj : Nc prog 159 true [S [], .int .i64 0, S []] 3 40 := qe (z := .agg #[S [], .int .i64 0, S []]) underlying159
instance Vy : Nc prog 164 false [.pointer none] 1 8 := qe (z := .pointer none) underlying164
instance Wy : Nc prog 168 false [.map none] 1 8 := qe (z := .map none) underlying168
instance Im : Nc prog 169 false [.slice none 0 0] 1 24 := qe (z := .slice none 0 0) underlying169
instance Ej : Nc prog 171 true [.slice none 0 0, .slice none 0 0] 2 48 := qe (z := .agg #[.slice none 0 0, .slice none 0 0]) underlying171
instance yI : Nc prog 173 true [.pointer none, .pointer none, .map none, .slice none 0 0, .slice none 0 0, .slice none 0 0, .int .i64 0] 7 104 := qe (z := .agg #[.pointer none, .pointer none, .map none, .slice none 0 0, .slice none 0 0, .slice none 0 0, .int .i64 0]) underlying173
instance zI : Nc prog 181 true [.slice none 0 0, .int .i64 0, .int .i64 0, .int .i64 0] 4 48 := qe (z := .agg #[.slice none 0 0, .int .i64 0, .int .i64 0, .int .i64 0]) underlying181
instance Qi : Nc prog 188 false [.slice none 0 0] 1 24 := qe (z := .slice none 0 0) underlying188
instance Lg : Nc prog 191 false [.slice none 0 0] 1 24 := qe (z := .slice none 0 0) underlying191
instance cd : Nc prog 193 true [.int .i64 0, .int .i64 0, S [], .slice none 0 0] 4 56 := qe (z := .agg #[.int .i64 0, .int .i64 0, S [], .slice none 0 0]) underlying193
instance Di : Nc prog 195 true [.int .i64 0, S [], .int .i64 0, .int .i64 0, S [], .slice none 0 0, .slice none 0 0, .slice none 0 0] 8 128 := qe (z := .agg #[.int .i64 0, S [], .int .i64 0, .int .i64 0, S [], .slice none 0 0, .slice none 0 0, .slice none 0 0]) underlying195
instance ov : Nc prog 200 false [.pointer none] 1 8 := qe (z := .pointer none) underlying200
instance Lr : Nc prog 205 true [.slice none 0 0, .slice none 0 0, .slice none 0 0] 3 72 := qe (z := .agg #[.slice none 0 0, .slice none 0 0, .slice none 0 0]) underlying205
instance Mr : Nc prog 208 true [S [], S [], S []] 3 48 := qe (z := .agg #[S [], S [], S []]) underlying208
instance AI : Nc prog 209 false [.pointer none] 1 8 := qe (z := .pointer none) underlying209
instance Jm : Nc prog 210 true [.slice none 0 0, .pointer none] 2 32 := qe (z := .agg #[.slice none 0 0, .pointer none]) underlying210
instance BI : Nc prog 237 true [.slice none 0 0, .map none] 2 32 := qe (z := .agg #[.slice none 0 0, .map none]) underlying237
instance ql : Nc prog 257 false [.pointer none] 1 8 := qe (z := .pointer none) underlying257
instance jj : Nc prog 258 false [.map none] 1 8 := qe (z := .map none) underlying258
instance pk : Nc prog 259 false [.slice none 0 0] 1 24 := qe (z := .slice none 0 0) underlying259
instance CI : Nc prog 261 true [.pointer none, .pointer none, .slice none 0 0] 3 40 := qe (z := .agg #[.pointer none, .pointer none, .slice none 0 0]) underlying261
instance Rn : Nc prog 274 true [.map none, .bool false] 2 16 := qe (z := .agg #[.map none, .bool false]) underlying274
theorem ZI : prog.eqGuardType prog.depth 87 = false := by kernel_rfl
theorem aJ : prog.stoodInHeld 87 = false := by kernel_rfl
instance tG : ld prog 103 0 0 := pd underlying103 rfl rfl rfl ib rfl
instance Ru : ld prog 103 1 1 := pd underlying103 rfl rfl rfl ib rfl
instance wB : ld prog 103 2 2 := pd underlying103 rfl rfl rfl Fi rfl
instance YJ : ld prog 103 3 3 := pd underlying103 rfl rfl rfl ib rfl
instance ZJ : ld prog 103 4 4 := pd underlying103 rfl rfl rfl ib rfl
instance xB : ld prog 103 5 5 := pd underlying103 rfl rfl rfl zk rfl
instance uG : ld prog 107 0 0 := pd underlying107 rfl rfl rfl Yj rfl
instance vG : ld prog 114 0 0 := pd underlying114 rfl rfl rfl ib rfl
instance aK : ld prog 114 1 1 := pd underlying114 rfl rfl rfl vi rfl
instance yB : ld prog 114 2 2 := pd underlying114 rfl rfl rfl Oi rfl
instance bK : ld prog 114 3 3 := pd underlying114 rfl rfl rfl So rfl
instance wG : ld prog 117 0 0 := pd underlying117 rfl rfl rfl ib rfl
instance cy : ld prog 117 1 1 := pd underlying117 rfl rfl rfl ib rfl
instance cK : ld prog 117 2 2 := pd underlying117 rfl rfl rfl ib rfl
instance xG : ld prog 120 0 0 := pd underlying120 rfl rfl rfl ib rfl
instance Su : ld prog 120 1 1 := pd underlying120 rfl rfl rfl ib rfl
instance dK : ld prog 120 2 2 := pd underlying120 rfl rfl rfl ch rfl
instance eK : ld prog 133 0 0 := pd underlying133 rfl rfl rfl ib rfl
instance fK : ld prog 133 1 1 := pd underlying133 rfl rfl rfl Td rfl
instance gK : ld prog 133 2 2 := pd underlying133 rfl rfl rfl ch rfl
instance hK : ld prog 133 3 3 := pd underlying133 rfl rfl rfl ib rfl
instance iK : ld prog 149 0 0 := pd underlying149 rfl rfl rfl ib rfl
instance jK : ld prog 157 0 0 := pd underlying157 rfl rfl rfl dm rfl
instance kK : ld prog 157 1 1 := pd underlying157 rfl rfl rfl Ph rfl
instance lK : ld prog 157 2 7 := pd underlying157 rfl rfl rfl To rfl
instance mK : ld prog 159 0 0 := pd underlying159 rfl rfl rfl Td rfl
instance nK : ld prog 159 1 1 := pd underlying159 rfl rfl rfl Fb rfl
instance oK : ld prog 171 0 0 := pd underlying171 rfl rfl rfl Fi rfl
instance pK : ld prog 171 1 1 := pd underlying171 rfl rfl rfl Im rfl
instance qK : ld prog 173 0 0 := pd underlying173 rfl rfl rfl nv rfl
instance rK : ld prog 173 1 1 := pd underlying173 rfl rfl rfl Vy rfl
instance sK : ld prog 173 2 2 := pd underlying173 rfl rfl rfl Wy rfl
instance tK : ld prog 173 3 3 := pd underlying173 rfl rfl rfl Fi rfl
instance uK : ld prog 173 4 4 := pd underlying173 rfl rfl rfl Ej rfl
instance vK : ld prog 173 5 6 := pd underlying173 rfl rfl rfl Vr rfl
instance yG : ld prog 181 0 0 := pd underlying181 rfl rfl rfl Ei rfl
instance wK : ld prog 181 1 1 := pd underlying181 rfl rfl rfl ib rfl
instance zG : ld prog 181 2 2 := pd underlying181 rfl rfl rfl ib rfl
instance xK : ld prog 181 3 3 := pd underlying181 rfl rfl rfl ib rfl
instance yK : ld prog 193 0 0 := pd underlying193 rfl rfl rfl ib rfl
instance zK : ld prog 193 1 1 := pd underlying193 rfl rfl rfl ch rfl
instance AK : ld prog 193 2 2 := pd underlying193 rfl rfl rfl Td rfl
instance BK : ld prog 193 3 3 := pd underlying193 rfl rfl rfl Lg rfl
instance CK : ld prog 195 0 0 := pd underlying195 rfl rfl rfl ib rfl
instance DK : ld prog 195 1 1 := pd underlying195 rfl rfl rfl Td rfl
instance EK : ld prog 195 2 2 := pd underlying195 rfl rfl rfl cd rfl
instance FK : ld prog 195 3 6 := pd underlying195 rfl rfl rfl pz rfl
instance GK : ld prog 205 0 0 := pd underlying205 rfl rfl rfl Qi rfl
instance HK : ld prog 205 1 1 := pd underlying205 rfl rfl rfl Qi rfl
instance IK : ld prog 205 2 2 := pd underlying205 rfl rfl rfl Qi rfl
instance JK : ld prog 208 1 1 := pd underlying208 rfl rfl rfl Td rfl
instance KK : ld prog 208 2 2 := pd underlying208 rfl rfl rfl Td rfl
instance LK : ld prog 210 0 0 := pd underlying210 rfl rfl rfl Qi rfl
instance MK : ld prog 210 1 1 := pd underlying210 rfl rfl rfl AI rfl
instance NK : ld prog 237 1 1 := pd underlying237 rfl rfl rfl Yn rfl
instance OK : ld prog 261 0 0 := pd underlying261 rfl rfl rfl ov rfl
instance PK : ld prog 261 1 1 := pd underlying261 rfl rfl rfl Gi rfl
instance QK : ld prog 261 2 2 := pd underlying261 rfl rfl rfl pk rfl
instance SK : ld prog 274 0 0 := pd underlying274 rfl rfl rfl dj rfl
instance TK : ld prog 274 1 1 := pd underlying274 rfl rfl rfl bk rfl
instance VL : ld prog 29 0 0 := pd underlying29 rfl rfl rfl ib rfl
instance WL : ld prog 29 3 3 := pd underlying29 rfl rfl rfl Ei rfl
instance LH : ld prog 37 0 0 := pd underlying37 rfl rfl rfl Xo rfl
instance MH : ld prog 37 1 1 := pd underlying37 rfl rfl rfl Ak rfl
instance XL : ld prog 45 0 0 := pd underlying45 rfl rfl rfl Vr rfl
instance YL : ld prog 51 0 0 := pd underlying51 rfl rfl rfl Vr rfl
instance ZL : ld prog 56 0 0 := pd underlying56 rfl rfl rfl ib rfl
instance aM : ld prog 56 1 1 := pd underlying56 rfl rfl rfl ib rfl
instance bM : ld prog 59 0 0 := pd underlying59 rfl rfl rfl Ur rfl
instance cM : ld prog 59 1 1 := pd underlying59 rfl rfl rfl Fi rfl
instance dM : ld prog 59 2 2 := pd underlying59 rfl rfl rfl Ur rfl
instance NH : ld prog 69 0 0 := pd underlying69 rfl rfl rfl Yj rfl
instance OH : ld prog 69 1 1 := pd underlying69 rfl rfl rfl nz rfl
instance PH : ld prog 69 2 2 := pd underlying69 rfl rfl rfl yl rfl
instance Cr : ld prog 69 3 3 := pd underlying69 rfl rfl rfl vi rfl
instance QH : ld prog 69 4 4 := pd underlying69 rfl rfl rfl ib rfl
instance eM : ld prog 69 5 5 := pd underlying69 rfl rfl rfl ib rfl
instance fM : ld prog 69 6 6 := pd underlying69 rfl rfl rfl ib rfl
instance gM : ld prog 69 7 7 := pd underlying69 rfl rfl rfl Ei rfl
instance hM : ld prog 69 8 8 := pd underlying69 rfl rfl rfl VI rfl
instance iM : ld prog 74 0 0 := pd underlying74 rfl rfl rfl Td rfl
instance jM : ld prog 74 1 1 := pd underlying74 rfl rfl rfl Td rfl
instance kM : ld prog 83 0 0 := pd underlying83 rfl rfl rfl cm rfl
instance lM : ld prog 83 2 2 := pd underlying83 rfl rfl rfl ib rfl
instance mM : ld prog 87 0 0 := pd underlying87 rfl rfl rfl ib rfl
instance nM : ld prog 87 1 1 := pd underlying87 rfl rfl rfl Td rfl
instance RH : ld prog 91 0 0 := pd underlying91 rfl rfl rfl ib rfl
instance oM : ld prog 91 1 1 := pd underlying91 rfl rfl rfl Td rfl
instance pM : ld prog 91 2 2 := pd underlying91 rfl rfl rfl Fb rfl
instance qM : ld prog 91 3 4 := pd underlying91 rfl rfl rfl Fb rfl
instance rM : ld prog 91 4 6 := pd underlying91 rfl rfl rfl ib rfl
instance sM : ld prog 91 5 7 := pd underlying91 rfl rfl rfl Wr rfl
instance tM : ld prog 91 6 8 := pd underlying91 rfl rfl rfl pz rfl
instance uM : ld prog 98 0 0 := pd underlying98 rfl rfl rfl dj rfl
instance vM : ld prog 98 1 1 := pd underlying98 rfl rfl rfl dj rfl
instance wM : ld prog 98 2 2 := pd underlying98 rfl rfl rfl Yn rfl
theorem DI : hh prog 103 #[(0, 1), (1, 1), (2, 1), (3, 1), (4, 1), (5, 1)]:= wh underlying103 (fun _ => by kernel_rfl)
theorem EI : hh prog 107 #[(0, 1)]:= wh underlying107 (fun _ => by kernel_rfl)
theorem FI : hh prog 114 #[(0, 1), (1, 1), (2, 1), (3, 1)]:= wh underlying114 (fun _ => by kernel_rfl)
theorem lC : hh prog 117 #[(0, 1), (1, 1), (2, 1)]:= wh underlying117 (fun _ => by kernel_rfl)
theorem GI : hh prog 120 #[(0, 1), (1, 1), (2, 1)]:= wh underlying120 (fun _ => by kernel_rfl)
theorem HI : hh prog 133 #[(0, 1), (1, 1), (2, 1), (3, 1)]:= wh underlying133 (fun _ => by kernel_rfl)
theorem II : hh prog 149 #[(0, 1)]:= wh underlying149 (fun _ => by kernel_rfl)
theorem JI : hh prog 157 #[(0, 1), (1, 6), (7, 1)]:= wh underlying157 (fun _ => by kernel_rfl)
theorem KI : hh prog 159 #[(0, 1), (1, 2)]:= wh underlying159 (fun _ => by kernel_rfl)
theorem pv : hh prog 171 #[(0, 1), (1, 1)]:= wh underlying171 (fun _ => by kernel_rfl)
theorem LI : hh prog 173 #[(0, 1), (1, 1), (2, 1), (3, 1), (4, 2), (6, 1)]:= wh underlying173 (fun _ => by kernel_rfl)
theorem MI : hh prog 181 #[(0, 1), (1, 1), (2, 1), (3, 1)]:= wh underlying181 (fun _ => by kernel_rfl)
theorem rl : hh prog 193 #[(0, 1), (1, 1), (2, 1), (3, 1)]:= wh underlying193 (fun _ => by kernel_rfl)
theorem sq : hh prog 195 #[(0, 1), (1, 1), (2, 4), (6, 1), (7, 1)]:= wh underlying195 (fun _ => by kernel_rfl)
theorem NI : hh prog 208 #[(0, 1), (1, 1), (2, 1)]:= wh underlying208 (fun _ => by kernel_rfl)
theorem mC : hh prog 210 #[(0, 1), (1, 1)]:= wh underlying210 (fun _ => by kernel_rfl)
theorem OI : hh prog 237 #[(0, 1), (1, 1)]:= wh underlying237 (fun _ => by kernel_rfl)
theorem PI : hh prog 261 #[(0, 1), (1, 1), (2, 1)]:= wh underlying261 (fun _ => by kernel_rfl)
theorem Nr : hh prog 274 #[(0, 1), (1, 1)]:= wh underlying274 (fun _ => by kernel_rfl)
theorem bJ : hh prog 29 #[(0, 1), (1, 1), (2, 1), (3, 1), (4, 1), (5, 1), (6, 1)]:= wh underlying29 (fun _ => by kernel_rfl)
theorem Xr : hh prog 45 #[(0, 1), (1, 1)]:= wh underlying45 (fun _ => by kernel_rfl)
theorem qz : hh prog 51 #[(0, 1), (1, 1), (2, 1)]:= wh underlying51 (fun _ => by kernel_rfl)
theorem cJ : hh prog 56 #[(0, 1), (1, 1)]:= wh underlying56 (fun _ => by kernel_rfl)
theorem yC : hh prog 59 #[(0, 1), (1, 1), (2, 1)]:= wh underlying59 (fun _ => by kernel_rfl)
theorem dJ : hh prog 69 #[(0, 1), (1, 1), (2, 1), (3, 1), (4, 1), (5, 1), (6, 1), (7, 1), (8, 1)]:= wh underlying69 (fun _ => by kernel_rfl)
theorem ji : hh prog 74 #[(0, 1), (1, 1)]:= wh underlying74 (fun _ => by kernel_rfl)
theorem eJ : hh prog 83 #[(0, 1), (1, 1), (2, 1)]:= wh underlying83 (fun _ => by kernel_rfl)
theorem vq : hh prog 87 #[(0, 1), (1, 1)]:= wh underlying87 (fun _ => by kernel_rfl)
theorem rz : hh prog 91 #[(0, 1), (1, 1), (2, 2), (4, 2), (6, 1), (7, 1), (8, 1)]:= wh underlying91 (fun _ => by kernel_rfl)
theorem fJ : hh prog 98 #[(0, 1), (1, 1), (2, 1)]:= wh underlying98 (fun _ => by kernel_rfl)
theorem nC : ∀ w, (zeroValue 171).run prog w = .ok (.agg #[.slice none 0 0, .slice none 0 0]) w := Ir (by kernel_rfl)
theorem oC : ∀ w, (zeroValue 205).run prog w = .ok (.agg #[.slice none 0 0, .slice none 0 0, .slice none 0 0]) w := Ir (by kernel_rfl)
theorem bp : ∀ w, (zeroValue 3).run prog w = .ok (.int .i64 0) w := Ir (by kernel_rfl)
theorem gJ : ∀ w, (zeroValue 87).run prog w = .ok (.agg #[.int .i64 0, S []]) w := Ir (by kernel_rfl)
theorem Zn : ∀ w, (zeroValue 99).run prog w = .ok (.pointer none) w := Ir (by kernel_rfl)
end Go.Proofs.YthdpoglpdpfnbaaGreatDoor
namespace Go.Proofs
open Go.Shelf
def Tryz.WC : Go.Shelf.Ren := ⟨fun | 174 => 54 | 247 => 90 | 245 => 91 | 287 => 120 | 279 => 121 | 280 => 122 | 281 => 123 | 282 => 124 | 321 => 142 | 322 => 143 | 316 => 144 | 171 => 146 | 205 => 145 | 243 => 155 | 246 => 163 | 283 => 173 | 284 => 174 | 285 => 175 | 286 => 176 | 129 => 186 | 317 => 185 | 318 => 187 | 319 => 188 | 320 => 189 | 337 => 190 | 338 => 191 | n => n, fun | 9 => 9 | 3 => 3 | 2 => 2 | 75 => 137 | 85 => 138 | 4 => 4 | 167 => 226 | 5 => 5 | 53 => 227 | 175 => 228 | 46 => 230 | 168 => 231 | 37 => 248 | 0 => 0 | 210 => 250 | 21 => 21 | 127 => 267 | 145 => 270 | 143 => 268 | 171 => 285 | 173 => 288 | 212 => 299 | 51 => 290 | 20 => 20 | 213 => 300 | 232 => 303 | 233 => 304 | 80 => 142 | n => n, fun | 15 => 0 | 16 => 1 | 17 => 3 | 18 => 4 | 19 => 5 | n => n⟩
theorem Tryz.iF : Go.Proofs.LaysC.n174 Tryz.prog Tryz.WC := {
  mixed := by kernel_rfl
  f129 := Tryz.func186.trans (congrArg some (by kernel_rfl))
  f171 := Tryz.func146.trans (congrArg some (by kernel_rfl))
  f174 := Tryz.func54.trans (congrArg some (by kernel_rfl))
  f205 := Tryz.func145.trans (congrArg some (by kernel_rfl))
  f243 := Tryz.func155.trans (congrArg some (by kernel_rfl))
  f245 := Tryz.func91.trans (congrArg some (by kernel_rfl))
  f246 := Tryz.func163.trans (congrArg some (by kernel_rfl))
  f247 := Tryz.func90.trans (congrArg some (by kernel_rfl))
  f279 := Tryz.func121.trans (congrArg some (by kernel_rfl))
  f280 := Tryz.func122.trans (congrArg some (by kernel_rfl))
  f281 := Tryz.func123.trans (congrArg some (by kernel_rfl))
  f282 := Tryz.func124.trans (congrArg some (by kernel_rfl))
  f283 := Tryz.func173.trans (congrArg some (by kernel_rfl))
  f284 := Tryz.func174.trans (congrArg some (by kernel_rfl))
  f285 := Tryz.func175.trans (congrArg some (by kernel_rfl))
  f286 := Tryz.func176.trans (congrArg some (by kernel_rfl))
  f287 := Tryz.func120.trans (congrArg some (by kernel_rfl))
  f316 := Tryz.func144.trans (congrArg some (by kernel_rfl))
  f317 := Tryz.func185.trans (congrArg some (by kernel_rfl))
  f318 := Tryz.func187.trans (congrArg some (by kernel_rfl))
  f319 := Tryz.func188.trans (congrArg some (by kernel_rfl))
  f320 := Tryz.func189.trans (congrArg some (by kernel_rfl))
  f321 := Tryz.func142.trans (congrArg some (by kernel_rfl))
  f322 := Tryz.func143.trans (congrArg some (by kernel_rfl))
  f337 := Tryz.func190.trans (congrArg some (by kernel_rfl))
  f338 := Tryz.func191.trans (congrArg some (by kernel_rfl))
  t0 := Tryz.underlying0
  a0 := Tryz.isAgg0
  z0 := Tryz.sizeOf0
  v0 := Tryz.zeroValue0
  t2 := Tryz.underlying2
  a2 := Tryz.isAgg2
  z2 := Tryz.sizeOf2
  v2 := Tryz.zeroValue2
  t3 := Tryz.underlying3
  a3 := Tryz.isAgg3
  z3 := Tryz.sizeOf3
  v3 := Tryz.zeroValue3
  t4 := Tryz.underlying4
  a4 := Tryz.isAgg4
  z4 := Tryz.sizeOf4
  v4 := Tryz.zeroValue4
  t5 := Tryz.underlying5
  a5 := Tryz.isAgg5
  z5 := Tryz.sizeOf5
  v5 := Tryz.zeroValue5
  t9 := Tryz.underlying9
  a9 := Tryz.isAgg9
  z9 := Tryz.sizeOf9
  v9 := Tryz.zeroValue9
  t20 := Tryz.underlying20
  a20 := Tryz.isAgg20
  z20 := Tryz.sizeOf20
  v20 := Tryz.zeroValue20
  t21 := Tryz.underlying21
  a21 := Tryz.isAgg21
  z21 := Tryz.sizeOf21
  v21 := Tryz.zeroValue21
  t37 := Tryz.underlying248
  a37 := Tryz.isAgg248
  z37 := Tryz.sizeOf248
  v37 := Tryz.zeroValue248
  t46 := Tryz.underlying230
  a46 := Tryz.isAgg230
  z46 := Tryz.sizeOf230
  v46 := Tryz.zeroValue230
  t51 := Tryz.underlying290
  a51 := Tryz.isAgg290
  z51 := Tryz.sizeOf290
  v51 := Tryz.zeroValue290
  t53 := Tryz.underlying227
  a53 := Tryz.isAgg227
  z53 := Tryz.sizeOf227
  v53 := Tryz.zeroValue227
  t75 := Tryz.underlying137
  a75 := Tryz.isAgg137
  z75 := Tryz.sizeOf137
  v75 := Tryz.zeroValue137
  t85 := Tryz.underlying138
  a85 := Tryz.isAgg138
  z85 := Tryz.sizeOf138
  v85 := Tryz.zeroValue138
  t127 := Tryz.underlying267
  a127 := Tryz.isAgg267
  z127 := Tryz.sizeOf267
  v127 := Tryz.zeroValue267
  t143 := Tryz.underlying268
  a143 := Tryz.isAgg268
  z143 := Tryz.sizeOf268
  v143 := Tryz.zeroValue268
  t145 := Tryz.underlying270
  a145 := Tryz.isAgg270
  z145 := Tryz.sizeOf270
  v145 := Tryz.zeroValue270
  t167 := Tryz.underlying226
  a167 := Tryz.isAgg226
  z167 := Tryz.sizeOf226
  v167 := Tryz.zeroValue226
  t168 := Tryz.underlying231
  a168 := Tryz.isAgg231
  z168 := Tryz.sizeOf231
  v168 := Tryz.zeroValue231
  t171 := Tryz.underlying285
  a171 := Tryz.isAgg285
  z171 := Tryz.sizeOf285
  v171 := Tryz.zeroValue285
  t173 := Tryz.underlying288
  a173 := Tryz.isAgg288
  z173 := Tryz.sizeOf288
  v173 := Tryz.zeroValue288
  t175 := Tryz.underlying228
  a175 := Tryz.isAgg228
  z175 := Tryz.sizeOf228
  v175 := Tryz.zeroValue228
  t210 := Tryz.underlying250
  a210 := Tryz.isAgg250
  z210 := Tryz.sizeOf250
  v210 := Tryz.zeroValue250
  t212 := Tryz.underlying299
  a212 := Tryz.isAgg299
  z212 := Tryz.sizeOf299
  v212 := Tryz.zeroValue299
  t213 := Tryz.underlying300
  a213 := Tryz.isAgg300
  z213 := Tryz.sizeOf300
  t232 := Tryz.underlying303
  a232 := Tryz.isAgg303
  z232 := Tryz.sizeOf303
  v232 := Tryz.zeroValue303
  t233 := Tryz.underlying304
  a233 := Tryz.isAgg304
  z233 := Tryz.sizeOf304
  v233 := Tryz.zeroValue304
  g15 := by kernel_rfl
  g16 := by kernel_rfl
  g17 := by kernel_rfl
  g18 := by kernel_rfl
  g19 := by kernel_rfl
  t80 := Tryz.underlying142
  a80 := Tryz.isAgg142
  z80 := Tryz.sizeOf142
  v80 := Tryz.zeroValue142
  i0 := by kernel_rfl
  i2 := by kernel_rfl
  i3 := by kernel_rfl
  i4 := by kernel_rfl
  i5 := by kernel_rfl
  i9 := by kernel_rfl
  i20 := by kernel_rfl
  i21 := by kernel_rfl
  i37 := by kernel_rfl
  i46 := by kernel_rfl
  i51 := by kernel_rfl
  i53 := by kernel_rfl
  i75 := by kernel_rfl
  i80 := by kernel_rfl
  i85 := by kernel_rfl
  i127 := by kernel_rfl
  i143 := by kernel_rfl
  i145 := by kernel_rfl
  i167 := by kernel_rfl
  i168 := by kernel_rfl
  i171 := by kernel_rfl
  i173 := by kernel_rfl
  i175 := by kernel_rfl
  i210 := by kernel_rfl
  i212 := by kernel_rfl
  i232 := by kernel_rfl
  i233 := by kernel_rfl
  m15 := by kernel_rfl
  m16 := by kernel_rfl
  m17 := by kernel_rfl
  m18 := by kernel_rfl
  m19 := by kernel_rfl
  c0 := by kernel_rfl
  c2 := by kernel_rfl
  c3 := by kernel_rfl
  c4 := by kernel_rfl
  c5 := by kernel_rfl
  c9 := by kernel_rfl
  c20 := by kernel_rfl
  c21 := by kernel_rfl
  c37 := by kernel_rfl
  c46 := by kernel_rfl
  c51 := by kernel_rfl
  c53 := by kernel_rfl
  c75 := by kernel_rfl
  c80 := by kernel_rfl
  c85 := by kernel_rfl
  c127 := by kernel_rfl
  c143 := by kernel_rfl
  c145 := by kernel_rfl
  c167 := by kernel_rfl
  c168 := by kernel_rfl
  c171 := by kernel_rfl
  c173 := by kernel_rfl
  c175 := by kernel_rfl
  c210 := by kernel_rfl
  c212 := by kernel_rfl
  c213 := by kernel_rfl
  c232 := by kernel_rfl
  c233 := by kernel_rfl }
open Go.RowKit in
theorem Tryz.strconv_ParseInt_10_at64_ok (s : ByteArray) (a : s.size ≤ 9223372036854775806) (v : Int) (h : Lib.parseIntB 64 s.data.toList = .ok v) (w : World) :
    Calls Tryz.prog 54 #[.string s, .int .i64 10, .int .i64 64] w fun e w' => e = .returned (.tuple #[.int .i64 v, .nilIface]) ∧ (w' = w ∨ ∃ t, w' = Lib.bytesWorld w 5 t):= Any.strconv_ParseInt_10_at64_ok Tryz.iF s a v h w
def Tryz.lD : Go.Shelf.Ren := ⟨fun | 144 => 126 | 143 => 147 | 219 => 156 | 217 => 164 | 225 => 165 | 224 => 166 | 267 => 167 | 266 => 177 | 314 => 178 | n => n, fun | 9 => 9 | 4 => 4 | 3 => 3 | 5 => 5 | 46 => 230 | 146 => 291 | 51 => 290 | n => n, fun | 1 => 2 | n => n⟩
theorem Tryz.AG : Go.Proofs.Lays.n144 Tryz.prog Tryz.lD := {
  mixed := by kernel_rfl
  f143 := Tryz.func147.trans (congrArg some (by kernel_rfl))
  f144 := Tryz.func126.trans (congrArg some (by kernel_rfl))
  f217 := Tryz.func164.trans (congrArg some (by kernel_rfl))
  f219 := Tryz.func156.trans (congrArg some (by kernel_rfl))
  f224 := Tryz.func166.trans (congrArg some (by kernel_rfl))
  f225 := Tryz.func165.trans (congrArg some (by kernel_rfl))
  f266 := Tryz.func177.trans (congrArg some (by kernel_rfl))
  f267 := Tryz.func167.trans (congrArg some (by kernel_rfl))
  f314 := Tryz.func178.trans (congrArg some (by kernel_rfl))
  t3 := Tryz.underlying3
  a3 := Tryz.isAgg3
  z3 := Tryz.sizeOf3
  v3 := Tryz.zeroValue3
  t4 := Tryz.underlying4
  a4 := Tryz.isAgg4
  z4 := Tryz.sizeOf4
  v4 := Tryz.zeroValue4
  t5 := Tryz.underlying5
  a5 := Tryz.isAgg5
  z5 := Tryz.sizeOf5
  v5 := Tryz.zeroValue5
  t9 := Tryz.underlying9
  a9 := Tryz.isAgg9
  z9 := Tryz.sizeOf9
  v9 := Tryz.zeroValue9
  t46 := Tryz.underlying230
  a46 := Tryz.isAgg230
  z46 := Tryz.sizeOf230
  v46 := Tryz.zeroValue230
  t51 := Tryz.underlying290
  a51 := Tryz.isAgg290
  z51 := Tryz.sizeOf290
  v51 := Tryz.zeroValue290
  t146 := Tryz.underlying291
  a146 := Tryz.isAgg291
  z146 := Tryz.sizeOf291
  v146 := Tryz.zeroValue291
  g1 := by kernel_rfl }
open Go.RowKit Go.Lib in
theorem Tryz.strings_Contains (s sub : ByteArray) (m : Int) (w : World) (a : s.size < 4294967281) (hm : w.cell? ⟨2, 0, none⟩ = some (.int .i64 m)) :
    Calls Tryz.prog 126 #[.string s, .string sub] w fun e w' => e = .returned (.bool (Lib.contains s.data.toList sub.data.toList)) ∧ w' = w := Any.strings_Contains Tryz.AG s sub m w a hm
def Tryz.mD : Go.Shelf.Ren := ⟨fun | 107 => 116 | 108 => 141 | n => n, fun | 28 => 27 | 3 => 3 | 4 => 4 | 0 => 0 | n => n, fun | n => n⟩
theorem Tryz.zB : Go.Proofs.Lays.n107 Tryz.prog Tryz.mD := {
  mixed := by kernel_rfl
  f107 := Tryz.func116.trans (congrArg some (by kernel_rfl))
  f108 := Tryz.func141.trans (congrArg some (by kernel_rfl))
  t0 := Tryz.underlying0
  a0 := Tryz.isAgg0
  z0 := Tryz.sizeOf0
  v0 := Tryz.zeroValue0
  t3 := Tryz.underlying3
  a3 := Tryz.isAgg3
  z3 := Tryz.sizeOf3
  v3 := Tryz.zeroValue3
  t4 := Tryz.underlying4
  a4 := Tryz.isAgg4
  z4 := Tryz.sizeOf4
  v4 := Tryz.zeroValue4
  t28 := Tryz.underlying27
  a28 := Tryz.isAgg27
  z28 := Tryz.sizeOf27
  v28 := Tryz.zeroValue27 }
open Go.Lib in
theorem Tryz.slices_Contains_int (b off n c : Nat) (a : List Int) (x : Int) (w : World) (d : n ≤ a.length) (f : n ≤ 9223372036854775807) (hc : ∀ j, j < a.length → w.cell? ⟨b, off + j, none⟩ = some (.int .i64 (a.getD j 0))) :
    Calls Tryz.prog 116 #[.slice (some ⟨b, off, none⟩) n c, .int .i64 x] w fun e w' => e = .returned (.bool ((a.take n).contains x)) ∧ w' = w := Any.slices_Contains_int Tryz.zB b off n c a x w d f hc
open Go.Lib in
theorem Tryz.slices_Contains_int_empty (a : Option Addr) (c : Nat) (x : Int) (w : World) :
    Calls Tryz.prog 116 #[.slice a 0 c, .int .i64 x] w fun e w' => e = .returned (.bool false) ∧ w' = w := Any.slices_Contains_int_empty Tryz.zB a c x w
def Tryz.nD : Go.Shelf.Ren := ⟨fun | 110 => 102 | 109 => 134 | n => n, fun | 31 => 188 | 9 => 9 | 4 => 4 | 3 => 3 | 0 => 0 | n => n, fun | n => n⟩
theorem Tryz.AB : Go.Proofs.Lays.n110 Tryz.prog Tryz.nD := {
  mixed := by kernel_rfl
  f109 := Tryz.func134.trans (congrArg some (by kernel_rfl))
  f110 := Tryz.func102.trans (congrArg some (by kernel_rfl))
  t0 := Tryz.underlying0
  a0 := Tryz.isAgg0
  z0 := Tryz.sizeOf0
  v0 := Tryz.zeroValue0
  t3 := Tryz.underlying3
  a3 := Tryz.isAgg3
  z3 := Tryz.sizeOf3
  v3 := Tryz.zeroValue3
  t4 := Tryz.underlying4
  a4 := Tryz.isAgg4
  z4 := Tryz.sizeOf4
  v4 := Tryz.zeroValue4
  t9 := Tryz.underlying9
  a9 := Tryz.isAgg9
  z9 := Tryz.sizeOf9
  v9 := Tryz.zeroValue9
  t31 := Tryz.underlying188
  a31 := Tryz.isAgg188
  z31 := Tryz.sizeOf188
  v31 := Tryz.zeroValue188 }
open Go.Lib in
theorem Tryz.slices_Contains_string (b off n c : Nat) (a : List ByteArray) (x : ByteArray) (w : World) (d : n ≤ a.length) (f : n ≤ 9223372036854775807) (hc : ∀ j, j < a.length → w.cell? ⟨b, off + j, none⟩ = some (.string (a.getD j ByteArray.empty))) :
    Calls Tryz.prog 102 #[.slice (some ⟨b, off, none⟩) n c, .string x] w fun e w' => e = .returned (.bool (Lib.containsS (a.take n) x)) ∧ w' = w := Any.slices_Contains_string Tryz.AB b off n c a x w d f hc
open Go.Lib in
theorem Tryz.slices_Contains_string_empty (a : Option Addr) (c : Nat) (x : ByteArray) (w : World) :
    Calls Tryz.prog 102 #[.slice a 0 c, .string x] w fun e w' => e = .returned (.bool false) ∧ w' = w := Any.slices_Contains_string_empty Tryz.AB a c x w
def Tryz.PC : Go.Shelf.Ren := ⟨fun | 15 => 109 | n => n, fun | 22 => 27 | 3 => 3 | 4 => 4 | n => n, fun | n => n⟩
theorem Tryz.gx : Go.Proofs.Lays2.n15 Tryz.prog Tryz.PC := {
  mixed := by kernel_rfl
  f15 := Tryz.func109.trans (congrArg some (by kernel_rfl))
  t3 := Tryz.underlying3
  a3 := Tryz.isAgg3
  z3 := Tryz.sizeOf3
  v3 := Tryz.zeroValue3
  t4 := Tryz.underlying4
  a4 := Tryz.isAgg4
  z4 := Tryz.sizeOf4
  v4 := Tryz.zeroValue4
  t22 := Tryz.underlying27
  a22 := Tryz.isAgg27
  z22 := Tryz.sizeOf27
  v22 := Tryz.zeroValue27
  i3 := by kernel_rfl }
open Go.RowKit Go.Lib in
theorem Tryz.slices_Clone_int (b off n c : Nat) (a : List Int) (w : World) (f : n ≤ a.length) (g : n * 8 ≤ 140737488355328) (hc : ∀ j, j < a.length → w.cell? ⟨b, off + j, none⟩ = some (.int .i64 (a.getD j 0))) :
    Calls Tryz.prog 109 #[.slice (some ⟨b, off, none⟩) n c] w fun e w' => ∃ d, e = .returned d ∧ w'.ownsRow w.heap.size 3 1 d n ((a.take n).map (Value.int .i64)) ∧ d ≠ .slice none 0 0 ∧ Below w.heap.size w w' := Any.slices_Clone_int Tryz.gx b off n c a w f g hc
open Go.RowKit Go.Lib in
theorem Tryz.slices_Clone_int_nil (n c : Nat) (w : World) :
    Calls Tryz.prog 109 #[.slice none n c] w fun e w' => e = .returned (.slice none 0 0) ∧ w' = w := Any.slices_Clone_int_nil Tryz.gx n c w
open Go.RowKit Go.Lib in
theorem Tryz.slices_Clone_int_zero (a : Addr) (c : Nat) (w : World) :
    Calls Tryz.prog 109 #[.slice (some a) 0 c] w fun e w' => ∃ b, e = .returned b ∧ w'.ownsRow w.heap.size 3 1 b 0 [] ∧ b ≠ .slice none 0 0 ∧ Below w.heap.size w w' := Any.slices_Clone_int_zero Tryz.gx a c w
def Tryz.JC : Go.Shelf.Ren := ⟨fun | 41 => 110 | n => n, fun | 22 => 169 | 23 => 4 | 4 => 4 | n => n, fun | n => n⟩
theorem Tryz.Fz : Go.Proofs.SlLaysE0.n41 Tryz.prog Tryz.JC := {
  mixed := by kernel_rfl
  f41 := ⟨Tryz.f110.name, by decide, Tryz.func110.trans (congrArg some (by kernel_rfl))⟩
  t4 := Tryz.underlying4
  a4 := Tryz.isAgg4
  z4 := Tryz.sizeOf4
  v4 := Tryz.zeroValue4
  t22 := Tryz.underlying169
  a22 := Tryz.isAgg169
  z22 := Tryz.sizeOf169
  v22 := Tryz.zeroValue169 }
open Go.RowKit Go.Lib in
theorem Tryz.LC (i0 : TypeInfo) (z : Value) (size bytes : Nat) (gb : Tryz.prog.info? 4 = some i0) (d : i0.zero = some z) (f : i0.size = size) (g : i0.bytes = bytes) (h : z.cells.size = size) (i : 0 < size) (z23 : ∀ w, (Go.sizeOf 4).run Tryz.prog w = .ok size w) (b off n c : Nat) (news : List Value) (w : World) (k : news.length = n * size) (l : n ≤ maxLen) (m : n * bytes ≤ 140737488355328) (hc : ∀ j u, news[j]? = some u → w.cell? ⟨b, off + j, none⟩ = some u) (o : ∀ u ∈ news, u.oneCell' = true) :
    Calls Tryz.prog 110 #[.slice (some ⟨b, off, none⟩) n c] w fun e w' => ∃ a, e = .returned a ∧ w'.ownsRow w.heap.size 4 size a n news ∧ a ≠ .slice none 0 0 ∧ Below w.heap.size w w' := AnyE.slices_Clone Tryz.Fz i0 z size bytes gb d f g h i z23 b off n c news w k l m hc o
open Go.RowKit Go.Lib in
theorem Tryz.IC (n c : Nat) (w : World) :
    Calls Tryz.prog 110 #[.slice none n c] w fun e w' => e = .returned (.slice none 0 0) ∧ w' = w := AnyE.slices_Clone_nil Tryz.Fz n c w
end Go.Proofs
namespace Go.Proofs.YthdpoglpdpfnbaaGreatDoor
open Go.vc Go.jd Go.Y Tryz
def hb : M := fun w => ∃ m, w.cell? ⟨2, 0, none⟩ = some (.int .i64 m)
theorem SH {I : M}{w0 w : World}{L : List Gb}{l : List UInt8}{r : Int}(g : dz l = some r) (b : la I w0 w L) :
    Bb prog 54 [S l, .int .i64 10, .int .i64 64] w (fun v w' => v = .tuple ⟨[.int .i64 r, .nilIface]⟩ ∧ la I w0 w' L):= by
  unfold dz at g;split at g
  · rename_i c;cases a : Lib.parseIntB 64 l with
    | ok v =>
      rw [a] at g;obtain rfl := Option.some.inj g;refine ⟨(strconv_ParseInt_10_at64_ok ⟨⟨l⟩⟩ c v a w).mono fun e w' he => ?_⟩;obtain ⟨rfl, hw⟩ := he;refine ⟨rfl, ?_⟩;rcases hw with rfl | ⟨t, rfl⟩
      · exact b
      · have h := Lib.bytesWorld_below w 5 t;exact b.grow ⟨h.os, h.tape, h.output, h.size, fun k d _ => h.block k d⟩
    | _ => rw [a] at g; cases g
  · cases g
theorem BG {I : M}{w0 w : World}{L : List Gb}{l sub : List UInt8}{b : Bool}(d : ga hb I) (g : yy l sub = some b) (c : la I w0 w L) :
    Bb prog 126 [S l, S sub] w (fun v w' => v = .bool b ∧ la I w0 w' L):= by
  unfold yy at g;split at g
  · rename_i f;obtain rfl := Option.some.inj g;obtain ⟨m, hm⟩ := d w c.a;refine ⟨(strings_Contains ⟨⟨l⟩⟩ ⟨⟨sub⟩⟩ m w f hm).mono fun e w' he => ?_⟩;obtain ⟨rfl, rfl⟩ := he;exact ⟨rfl, c⟩
  · cases g
end Go.Proofs.YthdpoglpdpfnbaaGreatDoor
namespace Go.Proofs.YthdpoglpdpfnbaaGreatDoor
open Go.vc Go.jd Go.Y Go.RowKit Tryz
section
variable {μ I : M}{w0 w : World}{L rs : List Gb}
def nq (w : World) (v : Value) (vs : List Value) : Prop := (vs = [] ∧ ∃ a c, v = .slice a 0 c) ∨ ∃ b o c, v = .slice (some ⟨b, o, none⟩) vs.length c ∧ vs.length ≤ 9223372036854775807 ∧ ∀ j y, vs[j]? = some y → w.cell? ⟨b, o + j, none⟩ = some y
theorem OA {α : Type}[Wa α]{f : α → Value}(a : ∀ (μ : M) (l : List Value) (x : α), Wa.cs μ l x → l = [f x]) : ∀ {l : List α}{cells : List Value}, ma μ cells l → cells = l.map f
  | [], cells, h => by rw [ma] at h; simp [h]
  | x :: l, cells, h => by
    rw [ma] at h;obtain ⟨cs, t, rfl, b, c⟩ := h;rw [a _ _ _ b, OA a c];rfl
theorem Kp {α : Type}[Wa α]{f : α → Value}(c : ∀ (μ : M) (l : List Value) (x : α), Wa.cs μ l x → l = [f x]){v : Value}{T : TypeId}{l : List α}{cells : List Value}(h : Row w v T 1 l.length cells) (d : ma μ cells l) : nq w v (l.map f):= by
  have e := OA c d;subst e;rcases h.2 with ⟨rfl, b⟩ | ⟨g, o, cap, cur, rfl, i, k, b, n, m⟩
  · exact .inl ⟨by rw [List.length_eq_zero_iff.1 b];rfl, none, 0, rfl⟩
  · refine .inr ⟨g, o, cap, by simp, by simp;exact Nat.le_trans k (Nat.le_trans b (by decide)), fun j y a => ?_⟩;rw [cell_of_row w g (o + j) cur T (0, 0) i];rw [← m, List.getElem?_take] at a;split at a
    · rw [List.getElem?_drop] at a;simpa using a
    · cases a
theorem Up {α : Type}[Wa α]{f : α → Value}(g : ∀ (μ : M) (l : List Value) (x : α), Wa.cs μ l x → l = [f x]) (i : Wa.sz α = 1){a : Option Addr}{c : Nat}{l : List α}(h : wa μ a c l) (hw : μ w) : nq w (.slice a l.length c) (l.map f):= by
  rcases h.el with rfl | ⟨b, o, rfl, p, k⟩
  · exact .inl ⟨rfl, a, c, rfl⟩
  · refine .inr ⟨b, o, c, by simp, by simp;exact wa.len h, fun j y d => ?_⟩;simp only [List.getElem?_map, Option.map_eq_some_iff] at d;obtain ⟨x, m, rfl⟩ := d;obtain ⟨e, n⟩ := k j x m;rw [g _ _ _ n, i] at e;have := e w hw 0 _ rfl;simpa using this
theorem tz (μ : M) (l : List Value) (x : List UInt8) (h : Wa.cs μ l x) : l = [S x]:= h
theorem Yr (μ : M) (l : List Value) (x : Int) (h : Wa.cs μ l x) : l = [.int .i64 x]:= h
theorem jw {v : Value}{l : List (List UInt8)}{x : List UInt8}(h : nq w v (l.map S)) : Bb prog 102 [v, S x] w (fun v w' => v = .bool (l.contains x) ∧ w' = w):= by
  rcases h with ⟨f, a, c, rfl⟩ | ⟨b, o, c, rfl, g, hc⟩
  · obtain rfl : l = []:= List.map_eq_nil_iff.1 f;exact ⟨(slices_Contains_string_empty a c ⟨⟨x⟩⟩ w).mono fun e w' he => by
      obtain ⟨rfl, rfl⟩ := he;exact ⟨rfl, rfl⟩⟩
  · refine ⟨(slices_Contains_string b o (l.map S).length c (l.map fun y => ⟨⟨y⟩⟩) ⟨⟨x⟩⟩ w (by simp) g ?_).mono fun e w' he => ?_⟩
    · intro j i;have d : j < l.length := by simpa using i
      rw [hc j (S l[j]) (by simp [d])];simp [List.getElem?_eq_getElem d, S]
    · obtain ⟨rfl, rfl⟩ := he;refine ⟨?_, rfl⟩;congr 1;rw [List.take_of_length_le (by simp), Bool.eq_iff_iff, Lib.containsS_iff, List.contains_iff_mem];constructor
      · intro hm;obtain ⟨y, m, e⟩ := List.mem_map.1 hm;have k : y = x := congrArg (fun b : ByteArray => b.data.toList) e;rwa [← k]
      · exact fun hm => List.mem_map.2 ⟨x, hm, rfl⟩
theorem XC {v : Value}{l : List Int}{x : Int}(h : nq w v (l.map (Value.int .i64))) : Bb prog 116 [v, .int .i64 x] w (fun v w' => v = .bool (l.contains x) ∧ w' = w):= by
  rcases h with ⟨f, a, c, rfl⟩ | ⟨b, o, c, rfl, g, hc⟩
  · obtain rfl : l = []:= List.map_eq_nil_iff.1 f;exact ⟨(slices_Contains_int_empty a c x w).mono fun e w' he => by
      obtain ⟨rfl, rfl⟩ := he;exact ⟨rfl, rfl⟩⟩
  · refine ⟨(slices_Contains_int b o (l.map (Value.int .i64)).length c l x w (by simp) g ?_).mono fun e w' he => ?_⟩
    · intro j d;rw [hc j (.int .i64 l[j]) (by simp [d])];simp [List.getElem?_eq_getElem d]
    · obtain ⟨rfl, rfl⟩ := he;refine ⟨?_, rfl⟩;rw [List.take_of_length_le (by simp)]
theorem ku {v : Value}{l : List Int}(r : l.length ≤ 65536) (h : nq w v (l.map (Value.int .i64))) (i : la I w0 w rs) :
    Bb prog 109 [v] w (fun m w' => la I w0 w' (.row m 3 1 l.length (l.map (Value.int .i64)):: rs)):= by
  rcases h with ⟨q, a, c, rfl⟩ | ⟨b, o, c, rfl, s, hc⟩
  · obtain rfl : l = []:= List.map_eq_nil_iff.1 q;cases a with
    | none => exact ⟨(slices_Clone_int_nil 0 c w).mono fun e w' he => by
        obtain ⟨rfl, rfl⟩ := he;exact i.Rh 3 1⟩
    | some a => exact ⟨(slices_Clone_int_zero a c w).mono fun e w' he => by
        obtain ⟨m, rfl, g, -, d⟩ := he;obtain ⟨n, f⟩ := nw g;exact i.newRow ⟨d.os, d.tape, d.output, d.size, fun k f _ => d.block k f⟩ n f⟩
  · refine ⟨(slices_Clone_int b o (l.map (Value.int .i64)).length c l w (by simp) (by simp;omega) ?_).mono fun e w' he => ?_⟩
    · intro j p;rw [hc j (.int .i64 l[j]) (by simp [p])];simp [List.getElem?_eq_getElem p]
    · obtain ⟨m, rfl, g, -, d⟩ := he;rw [List.take_of_length_le (by simp), List.length_map] at g;obtain ⟨n, f⟩ := nw g;exact i.newRow ⟨d.os, d.tape, d.output, d.size, fun k f _ => d.block k f⟩ n f
theorem lu {v : Value}{l : List Bool}(C : l.length ≤ 65536) (h : nq w v (l.map Value.bool)) (d : la I w0 w rs) :
    Bb prog 110 [v] w (fun s w' => la I w0 w' (.row s 4 1 l.length (l.map Value.bool):: rs)):= by
  rcases h with ⟨f, a, c, rfl⟩ | ⟨b, o, c, rfl, D, hc⟩
  · obtain rfl : l = []:= List.map_eq_nil_iff.1 f;cases a with
    | none => exact ⟨(IC 0 c w).mono fun e w' he => by
        obtain ⟨rfl, rfl⟩ := he;exact d.Rh 4 1⟩
    | some a =>
      refine enter func110 rfl (frm := [_, _, _, _, _, _, _, _]) rfl ?_;refine Ha ?_;refine Qa ?_;refine wl (Ti ya (ha Va) ?_);refine Ka ?_;refine oa ?_;refine Ha ?_;refine Ha ?_;refine Qa ?_;refine wl (uh (aa d0) (ha Db) ?_);refine wl (TF underlying169 (aa d3) (ha zb) ?_);refine Ka ?_;refine oa ?_;refine tl (aa d4) ?_;refine Pa ?_;refine oa ?_;refine Ha ?_;refine Qa ?_;refine wl (gH underlying169 bk d ?_);clear d;intro jg E F d;refine pu (ha fc) ?_;replace d := d.Gn (n := 0) (sz := Wa.sz Bool) d0 rfl (by decide) Aa;refine wl (uh (aa d0) (ha ic) ?_);refine wl (av (α := Bool) (l := []) (ys := []) (news := []) underlying169 bk rfl (aa d5) (aa d6) d d0 (fun e => absurd rfl e) rfl (show app [] [] = some [] from rfl) (by decide) ?_);clear d;intro v2 G y A d;cases (show _ = y from A);replace d := Sep.Re d Aa;refine pu (ha Ib) ?_;refine wl (Ti (aa d7) (ha Va) ?_);refine Ka ?_;refine oa ?_;refine fb ?_;refine kc rfl d2 ?_;exact d
  · have gb : ∃ i z, prog.info? 4 = some i ∧ i.zero = some z ∧ i.size = 1 ∧ i.bytes = 1 ∧ z.cells.size = 1 := by
      obtain ⟨i, z, f, j, m, p, q⟩ := (bk).inf;exact ⟨i, z, f, j, p, q, by rw [m];rfl⟩
    obtain ⟨i, z, f, j, m, p, q⟩ := gb;refine ⟨(LC i z 1 1 f j m p q (by decide) (fun w => (bk).sizeOf) b o (l.map Value.bool).length c (l.map Value.bool) w (by simp) (by simp [maxLen];omega) (by simp;omega) hc (fun u hu => ?_)).mono fun e w' he => ?_⟩
    · obtain ⟨x, -, rfl⟩ := List.mem_map.1 hu;rfl
    · obtain ⟨s, rfl, t, -, g⟩ := he;rw [List.length_map] at t;obtain ⟨B, r⟩ := nw t;exact d.newRow ⟨g.os, g.tape, g.output, g.size, fun k r _ => g.block k r⟩ B r
theorem qv (μ : M) (l : List Value) (x : Bool) (h : Wa.cs μ l x) : l = [.bool x]:= h
theorem vm {α : Type}[Wa α]{f : α → Value}(a : ∀ (μ : M) (x : α), Wa.cs μ [f x] x) : ∀ (l : List α), ma μ (l.map f) l
  | [] => rfl
  | x :: l => ⟨[f x], _, rfl, a μ x, vm a l⟩
end
end Go.Proofs.YthdpoglpdpfnbaaGreatDoor
