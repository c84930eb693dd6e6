/- Texts of Fl. -/
import Derived.Test.YtfmlfolepjbgaaaGreatDoorCXt
import Derived.Test.YtfmlfolepjbgaaaGreatDoorProg
import Derived.KernelRfl
import Derived.Shelf.Strconv.Itoa0
import Derived.Shelf.Strconv.Itoa1
import Derived.Shelf.LaysM
import Derived.Shelf.Strconv.Itoa2
import Derived.Shelf.Strconv.Itoa3
import Derived.Shelf.Strconv.ParseIntEmpty
import Derived.Shelf.Strconv.Clone
import Derived.Shelf.Strconv.SyntaxError
import Derived.Shelf.LaysC
import Derived.Shelf.Strconv.ToError
import Derived.Shelf.Strconv.Lower
import Derived.Shelf.Strconv.ParseUint10
import Derived.Shelf.Strconv.ParseUint10Empty
import Derived.Shelf.Strconv.ParseUint10Any
import Derived.Shelf.Strconv.ParseInt10
import Derived.Shelf.Strconv.RangeError
import Derived.Shelf.Strconv.ToErrorRange
import Derived.Shelf.Strconv.ParseUintEmpty
import Derived.Shelf.Strconv.ParseUint10b64
import Derived.Shelf.Strconv.ParseUint10b32
import Derived.Shelf.Strconv.ParseUint10b16
import Derived.Shelf.Strconv.ParseUint10b8
import Derived.Shelf.Strconv.ParseUint10At
import Derived.Shelf.Strconv.ParseInt10At64
import Derived.Shelf.Strconv.ParseInt10At32
import Derived.Shelf.Strconv.ParseInt10At16
import Derived.Shelf.Strconv.ParseInt10At8
import Derived.Shelf.Strconv.ParseInt10All
import Derived.Shelf.Strconv.ParseIntPublic10
import Derived.Shelf.Strings.Search1
import Derived.Shelf.Strings.Search2
import Derived.Shelf.Strings.Search3
import Derived.Shelf.Strings.Shaped
import Derived.Shelf.Strings.Prefix
import Derived.Shelf.Slices.Turned
import Derived.Ground.Names2Prog
import Derived.Shelf.Slices.Clone
import Derived.Ground.SlgnProg
import Derived.Shelf.SlicesE.Clone
import Derived.Test.YtfmlfolepjbgaaaGreatDoorCMd
import Derived.Test.YtfmlfolepjbgaaaGreatDoorCXu
import Derived.Lib.SlicesS
set_option linter.unusedSimpArgs false
set_option linter.unusedVariables false
set_option linter.unusedSectionVars false
namespace Go.Proofs.YtfmlfolepjbgaaaGreatDoor
open Go.oc Go.sd Tryz
instance ZM:vc prog 4:=Nc func4
instance aN:vc prog 5:=Nc func5
instance bN:vc prog 6:=Nc func6
instance cN:vc prog 7:=Nc func7
instance dN:vc prog 8:=Nc func8
instance ct:vc prog 9:=Nc func9
instance GL:vc prog 10:=Nc func10
instance HL:vc prog 11:=Nc func11
instance IL:vc prog 12:=Nc func12
instance JL:vc prog 13:=Nc func13
instance KL:vc prog 14:=Nc func14
instance aI:vc prog 15:=Nc func15
instance LL:vc prog 17:=Nc func17
instance bI:vc prog 18:=Nc func18
instance ML:vc prog 19:=Nc func19
instance NL:vc prog 20:=Nc func20
instance cI:vc prog 21:=Nc func21
instance OL:vc prog 22:=Nc func22
instance Uw:vc prog 23:=Nc func23
instance Vw:vc prog 24:=Nc func24
instance PL:vc prog 25:=Nc func25
instance QL:vc prog 26:=Nc func26
instance RL:vc prog 27:=Nc func27
instance dI:vc prog 28:=Nc func28
instance SL:vc prog 29:=Nc func29
instance DC:vc prog 30:=Nc func30
instance eI:vc prog 31:=Nc func31
instance fI:vc prog 32:=Nc func32
instance gI:vc prog 33:=Nc func33
instance hI:vc prog 34:=Nc func34
instance TL:vc prog 35:=Nc func35
instance iI:vc prog 36:=Nc func36
instance Yy:vc prog 37:=Nc func37
instance jI:vc prog 38:=Nc func38
instance Zy:vc prog 39:=Nc func39
instance kI:vc prog 40:=Nc func40
instance UL:vc prog 41:=Nc func41
instance VL:vc prog 42:=Nc func42
instance WL:vc prog 43:=Nc func43
instance XL:vc prog 45:=Nc func45
instance YL:vc prog 46:=Nc func46
instance ZL:vc prog 48:=Nc func48
instance aM:vc prog 49:=Nc func49
instance bM:vc prog 50:=Nc func50
instance lI:vc prog 51:=Nc func51
instance az:vc prog 52:=Nc func52
instance cM:vc prog 53:=Nc func53
instance mI:vc prog 54:=Nc func54
instance nI:vc prog 55:=Nc func55
instance oI:vc prog 56:=Nc func56
instance dM:vc prog 57:=Nc func57
instance pI:vc prog 58:=Nc func58
instance EC:vc prog 59:=Nc func59
instance FC:vc prog 60:=Nc func60
instance GC:vc prog 61:=Nc func61
instance bz:vc prog 62:=Nc func62
instance eM:vc prog 63:=Nc func63
instance fM:vc prog 64:=Nc func64
instance gM:vc prog 65:=Nc func65
instance HC:vc prog 66:=Nc func66
instance hM:vc prog 67:=Nc func67
instance iM:vc prog 71:=Nc func71
instance jM:vc prog 72:=Nc func72
instance Oq:vc prog 73:=Nc func73
instance kM:vc prog 74:=Nc func74
instance lM:vc prog 75:=Nc func75
instance mM:vc prog 76:=Nc func76
instance nM:vc prog 77:=Nc func77
instance oM:vc prog 78:=Nc func78
instance qI:vc prog 79:=Nc func79
instance rI:vc prog 80:=Nc func80
instance pM:vc prog 81:=Nc func81
instance qM:vc prog 83:=Nc func83
instance cz:vc prog 84:=Nc func84
instance rM:vc prog 85:=Nc func85
instance sM:vc prog 86:=Nc func86
instance tM:vc prog 87:=Nc func87
instance uM:vc prog 88:=Nc func88
instance vM:vc prog 95:=Nc func95
instance sI:vc prog 96:=Nc func96
instance tI:vc prog 97:=Nc func97
instance IC:vc prog 98:=Nc func98
instance wM:vc prog 99:=Nc func99
instance IK:vc prog 100:=Nc func100
instance JK:vc prog 101:=Nc func101
instance Bu:vc prog 102:=Nc func102
instance Gw:vc prog 103:=Nc func103
instance KK:vc prog 104:=Nc func104
instance LK:vc prog 105:=Nc func105
instance nH:vc prog 112:=Nc func112
instance MK:vc prog 113:=Nc func113
instance Ny:vc prog 114:=Nc func114
instance WB:vc prog 115:=Nc func115
instance oH:vc prog 116:=Nc func116
instance NK:vc prog 119:=Nc func119
instance OK:vc prog 120:=Nc func120
instance PK:vc prog 121:=Nc func121
instance QK:vc prog 122:=Nc func122
instance SK:vc prog 123:=Nc func123
instance Gn:vc prog 124:=Nc func124
instance Oy:vc prog 125:=Nc func125
instance TK:vc prog 131:=Nc func131
instance XB:vc prog 132:=Nc func132
instance UK:vc prog 133:=Nc func133
instance VK:vc prog 134:=Nc func134
instance WK:vc prog 135:=Nc func135
instance ar:Wc prog 2 false [.int .i64 0] 1 8:=ff (z:=.int .i64 0) underlying2
instance Lb:Wc prog 3 false [.int .i64 0] 1 8:=ff (z:=.int .i64 0) underlying3
instance ck:Wc prog 4 false [.bool false] 1 1:=ff (z:=.bool false) underlying4
instance je:Wc prog 9 false [S []] 1 16:=ff (z:=S []) underlying9
instance fq:Wc prog 22 false [.slice none 0 0] 1 24:=ff (z:=.slice none 0 0) underlying22
instance gq:Wc prog 24 false [.slice none 0 0] 1 24:=ff (z:=.slice none 0 0) underlying24
instance Lo:Wc prog 25 false [.slice none 0 0] 1 24:=ff (z:=.slice none 0 0) underlying25
instance zl:Wc prog 27 true [.slice none 0 0,.slice none 0 0] 2 48:=ff (z:=.agg #[.slice none 0 0,.slice none 0 0]) underlying27
instance kt:Wc prog 28 false [.int .i64 0] 1 8:=ff (z:=.int .i64 0) underlying28
instance Kd:Wc prog 30 true [.int .i64 0,.int .i64 0] 2 16:=ff (z:=.agg #[.int .i64 0,.int .i64 0]) underlying30
instance Hf:Wc prog 34 true [.int .i64 0,.int .i64 0,.int .i64 0] 3 24:=ff (z:=.agg #[.int .i64 0,.int .i64 0,.int .i64 0]) underlying34
instance lj:Wc prog 39 false [.slice none 0 0] 1 24:=ff (z:=.slice none 0 0) underlying39
instance Al:Wc prog 40 false [.slice none 0 0] 1 24:=ff (z:=.slice none 0 0) underlying40
instance ki:Wc prog 42 true [.int .i64 0,.int .i64 0,.slice none 0 0,.int .i64 0,.int .i64 0,.slice none 0 0] 6 80:=ff (z:=.agg #[.int .i64 0,.int .i64 0,.slice none 0 0,.int .i64 0,.int .i64 0,.slice none 0 0]) underlying42
instance Qk:Wc prog 44 true [.int .i64 0,.int .i64 0,.int .i64 0] 3 24:=ff (z:=.agg #[.int .i64 0,.int .i64 0,.int .i64 0]) underlying44
instance Rk:Wc prog 46 false [.pointer none] 1 8:=ff (z:=.pointer none) underlying46
instance Yh:Wc prog 47 false [.map none] 1 8:=ff (z:=.map none) underlying47
instance Mo:Wc prog 48 false [.map none] 1 8:=ff (z:=.map none) underlying48
instance XJ:Wc prog 50 true [.map none,.map none,.map none] 3 24:=ff (z:=.agg #[.map none,.map none,.map none]) underlying50
instance Un:Wc prog 51 false [.pointer none] 1 8:=ff (z:=.pointer none) underlying51
instance bc:Wc prog 53 true [.int .i64 0,S []] 2 24:=ff (z:=.agg #[.int .i64 0,S []]) underlying53
instance mx:Wc prog 54 false [.slice none 0 0] 1 24:=ff (z:=.slice none 0 0) underlying54
instance yz:Wc prog 55 false [.slice none 0 0] 1 24:=ff (z:=.slice none 0 0) underlying55
instance Yg:Wc prog 57 true [.int .i64 0,S [],.int .i64 0,S [],.int .i64 0,S [],.int .i64 0,.slice none 0 0,.slice none 0 0] 9 128:=ff (z:=.agg #[.int .i64 0,S [],.int .i64 0,S [],.int .i64 0,S [],.int .i64 0,.slice none 0 0,.slice none 0 0]) underlying57
instance hq:Wc prog 60 true [.int .i64 0,.int .i64 0] 2 16:=ff (z:=.agg #[.int .i64 0,.int .i64 0]) underlying60
instance dv:Wc prog 62 false [.pointer none] 1 8:=ff (z:=.pointer none) underlying62
instance iq:Wc prog 63 false [.pointer none] 1 8:=ff (z:=.pointer none) underlying63
instance YJ:Wc prog 65 true [.pointer none] 1 8:=ff (z:=.agg #[.pointer none]) underlying65
instance Vn:Wc prog 68 false [.slice none 0 0] 1 24:=ff (z:=.slice none 0 0) underlying68
instance eN:Wc prog 73 false [.pointer none] 1 8:=ff (z:=.pointer none) underlying73
instance ZJ:Wc prog 75 true [.slice none 0 0,.int .i64 0,.int .i64 0] 3 40:=ff (z:=.agg #[.slice none 0 0,.int .i64 0,.int .i64 0]) underlying75
instance Wq:Wc prog 83 false [.slice none 0 0] 1 24:=ff (z:=.slice none 0 0) underlying83
instance aK:Wc prog 85 true [.pointer none,.int .i64 0,.int .i64 0,.slice none 0 0,.int .i64 0,.int .i64 0,.slice none 0 0,.slice none 0 0] 8 112:=ff (z:=.agg #[.pointer none,.int .i64 0,.int .i64 0,.slice none 0 0,.int .i64 0,.int .i64 0,.slice none 0 0,.slice none 0 0]) underlying85
instance Sk:Wc prog 87 true [S [],.int .i64 0,S []] 3 40:=ff (z:=.agg #[S [],.int .i64 0,S []]) underlying87
instance zz:Wc prog 92 false [.pointer none] 1 8:=ff (z:=.pointer none) underlying92
instance Az:Wc prog 96 false [.map none] 1 8:=ff (z:=.map none) underlying96
instance No:Wc prog 97 false [.slice none 0 0] 1 24:=ff (z:=.slice none 0 0) underlying97
instance Tk:Wc prog 99 true [.slice none 0 0,.slice none 0 0] 2 48:=ff (z:=.agg #[.slice none 0 0,.slice none 0 0]) underlying99
instance yJ:Wc prog 101 true [.pointer none,.pointer none,.map none,.slice none 0 0,.slice none 0 0,.slice none 0 0,.int .i64 0] 7 104:=ff (z:=.agg #[.pointer none,.pointer none,.map none,.slice none 0 0,.slice none 0 0,.slice none 0 0,.int .i64 0]) underlying101
instance Wj:Wc prog 110 true [.int .i64 0,S [],.int .i64 0,.int .i64 0] 4 40:=ff (z:=.agg #[.int .i64 0,S [],.int .i64 0,.int .i64 0]) underlying110
instance zJ:Wc prog 127 true [.int .i64 0] 1 8:=ff (z:=.agg #[.int .i64 0]) underlying127
instance rz:Wc prog 128 false [.nilFunc] 1 8:=ff (z:=.nilFunc) underlying128
instance Mu:Wc prog 129 false [.pointer none] 1 8:=ff (z:=.pointer none) underlying129
instance ji:Wc prog 133 false [.slice none 0 0] 1 24:=ff (z:=.slice none 0 0) underlying133
instance Nu:Wc prog 135 true [.slice none 0 0,.slice none 0 0,.slice none 0 0] 3 72:=ff (z:=.agg #[.slice none 0 0,.slice none 0 0,.slice none 0 0]) underlying135
instance Ou:Wc prog 138 true [S [],S [],S []] 3 48:=ff (z:=.agg #[S [],S [],S []]) underlying138
instance AJ:Wc prog 139 false [.pointer none] 1 8:=ff (z:=.pointer none) underlying139
instance Jo:Wc prog 140 true [.slice none 0 0,.pointer none] 2 32:=ff (z:=.agg #[.slice none 0 0,.pointer none]) underlying140
instance wk:Wc prog 145 false [.slice none 0 0] 1 24:=ff (z:=.slice none 0 0) underlying145
instance tg:Wc prog 147 true [.int .i64 0,.int .i64 0,S [],.slice none 0 0] 4 56:=ff (z:=.agg #[.int .i64 0,.int .i64 0,S [],.slice none 0 0]) underlying147
instance xl:Wc prog 149 true [.int .i64 0,S [],.int .i64 0,.int .i64 0,S [],.slice none 0 0,.slice none 0 0,.slice none 0 0] 8 128:=ff (z:=.agg #[.int .i64 0,S [],.int .i64 0,.int .i64 0,S [],.slice none 0 0,.slice none 0 0,.slice none 0 0]) underlying149
instance BJ:Wc prog 168 true [.slice none 0 0,.map none] 2 32:=ff (z:=.agg #[.slice none 0 0,.map none]) underlying168
instance Lm:Wc prog 189 false [.pointer none] 1 8:=ff (z:=.pointer none) underlying189
instance Nn:Wc prog 190 false [.map none] 1 8:=ff (z:=.map none) underlying190
instance om:Wc prog 191 false [.slice none 0 0] 1 24:=ff (z:=.slice none 0 0) underlying191
instance CJ:Wc prog 193 true [.pointer none,.pointer none,.slice none 0 0] 3 40:=ff (z:=.agg #[.pointer none,.pointer none,.slice none 0 0]) underlying193
instance Wp:Wc prog 217 true [.map none,.bool false] 2 16:=ff (z:=.agg #[.map none,.bool false]) underlying217
theorem bK:prog.eqGuardType prog.depth 34=false:=by kernel_rfl
theorem rD:prog.eqGuardType prog.depth 53=false:=by kernel_rfl
theorem cK:prog.stoodInHeld 34=false:=by kernel_rfl
theorem sD:prog.stoodInHeld 53=false:=by kernel_rfl
instance XK:ke prog 101 0 0:=se underlying101 rfl rfl rfl dv rfl
instance YK:ke prog 101 1 1:=se underlying101 rfl rfl rfl zz rfl
instance ZK:ke prog 101 2 2:=se underlying101 rfl rfl rfl Az rfl
instance aL:ke prog 101 3 3:=se underlying101 rfl rfl rfl lj rfl
instance bL:ke prog 101 4 4:=se underlying101 rfl rfl rfl Tk rfl
instance cL:ke prog 101 5 6:=se underlying101 rfl rfl rfl kt rfl
instance dL:ke prog 110 0 0:=se underlying110 rfl rfl rfl Lb rfl
instance eL:ke prog 110 1 1:=se underlying110 rfl rfl rfl je rfl
instance fL:ke prog 110 2 2:=se underlying110 rfl rfl rfl ar rfl
instance gL:ke prog 110 3 3:=se underlying110 rfl rfl rfl Lb rfl
instance hL:ke prog 127 0 0:=se underlying127 rfl rfl rfl Lb rfl
instance iL:ke prog 135 0 0:=se underlying135 rfl rfl rfl ji rfl
instance jL:ke prog 135 1 1:=se underlying135 rfl rfl rfl ji rfl
instance kL:ke prog 135 2 2:=se underlying135 rfl rfl rfl ji rfl
instance lL:ke prog 138 1 1:=se underlying138 rfl rfl rfl je rfl
instance mL:ke prog 138 2 2:=se underlying138 rfl rfl rfl je rfl
instance nL:ke prog 140 0 0:=se underlying140 rfl rfl rfl ji rfl
instance oL:ke prog 140 1 1:=se underlying140 rfl rfl rfl AJ rfl
instance pL:ke prog 147 0 0:=se underlying147 rfl rfl rfl Lb rfl
instance qL:ke prog 147 1 1:=se underlying147 rfl rfl rfl ar rfl
instance rL:ke prog 147 2 2:=se underlying147 rfl rfl rfl je rfl
instance sL:ke prog 147 3 3:=se underlying147 rfl rfl rfl wk rfl
instance tL:ke prog 149 0 0:=se underlying149 rfl rfl rfl Lb rfl
instance uL:ke prog 149 1 1:=se underlying149 rfl rfl rfl je rfl
instance vL:ke prog 149 2 2:=se underlying149 rfl rfl rfl tg rfl
instance wL:ke prog 149 3 6:=se underlying149 rfl rfl rfl yz rfl
instance xL:ke prog 149 4 7:=se underlying149 rfl rfl rfl yz rfl
instance yL:ke prog 168 1 1:=se underlying168 rfl rfl rfl Mo rfl
instance zL:ke prog 193 0 0:=se underlying193 rfl rfl rfl Mu rfl
instance AL:ke prog 193 1 1:=se underlying193 rfl rfl rfl Un rfl
instance BL:ke prog 193 2 2:=se underlying193 rfl rfl rfl om rfl
instance CL:ke prog 217 0 0:=se underlying217 rfl rfl rfl Yh rfl
instance DL:ke prog 217 1 1:=se underlying217 rfl rfl rfl ck rfl
instance uI:ke prog 27 0 0:=se underlying27 rfl rfl rfl gq rfl
instance xM:ke prog 27 1 1:=se underlying27 rfl rfl rfl Lo rfl
instance yM:ke prog 30 0 0:=se underlying30 rfl rfl rfl kt rfl
instance zM:ke prog 34 0 0:=se underlying34 rfl rfl rfl kt rfl
instance vI:ke prog 42 0 0:=se underlying42 rfl rfl rfl Lb rfl
instance Ww:ke prog 42 1 1:=se underlying42 rfl rfl rfl Lb rfl
instance dz:ke prog 42 2 2:=se underlying42 rfl rfl rfl lj rfl
instance AM:ke prog 42 3 3:=se underlying42 rfl rfl rfl Lb rfl
instance BM:ke prog 42 4 4:=se underlying42 rfl rfl rfl Lb rfl
instance wI:ke prog 42 5 5:=se underlying42 rfl rfl rfl Al rfl
instance CM:ke prog 44 0 0:=se underlying44 rfl rfl rfl Lb rfl
instance ez:ke prog 44 1 1:=se underlying44 rfl rfl rfl Lb rfl
instance DM:ke prog 50 0 0:=se underlying50 rfl rfl rfl Yh rfl
instance EM:ke prog 50 1 1:=se underlying50 rfl rfl rfl Yh rfl
instance FM:ke prog 50 2 2:=se underlying50 rfl rfl rfl Mo rfl
instance GM:ke prog 53 0 0:=se underlying53 rfl rfl rfl Lb rfl
instance HM:ke prog 53 1 1:=se underlying53 rfl rfl rfl je rfl
instance xI:ke prog 57 0 0:=se underlying57 rfl rfl rfl Lb rfl
instance IM:ke prog 57 1 1:=se underlying57 rfl rfl rfl je rfl
instance JM:ke prog 57 2 2:=se underlying57 rfl rfl rfl bc rfl
instance KM:ke prog 57 3 4:=se underlying57 rfl rfl rfl bc rfl
instance LM:ke prog 57 4 6:=se underlying57 rfl rfl rfl Lb rfl
instance MM:ke prog 57 5 7:=se underlying57 rfl rfl rfl mx rfl
instance NM:ke prog 57 6 8:=se underlying57 rfl rfl rfl yz rfl
instance OM:ke prog 60 0 0:=se underlying60 rfl rfl rfl Lb rfl
instance PM:ke prog 60 1 1:=se underlying60 rfl rfl rfl Lb rfl
instance yI:ke prog 65 0 0:=se underlying65 rfl rfl rfl iq rfl
instance QM:ke prog 75 0 0:=se underlying75 rfl rfl rfl Vn rfl
instance RM:ke prog 75 2 2:=se underlying75 rfl rfl rfl Lb rfl
instance SM:ke prog 85 0 0:=se underlying85 rfl rfl rfl Rk rfl
instance TM:ke prog 85 1 1:=se underlying85 rfl rfl rfl ki rfl
instance UM:ke prog 85 2 7:=se underlying85 rfl rfl rfl Wq rfl
instance VM:ke prog 87 0 0:=se underlying87 rfl rfl rfl je rfl
instance WM:ke prog 87 1 1:=se underlying87 rfl rfl rfl bc rfl
instance XM:ke prog 99 0 0:=se underlying99 rfl rfl rfl lj rfl
instance YM:ke prog 99 1 1:=se underlying99 rfl rfl rfl No rfl
theorem DJ:Nh prog 101 #[(0,1),(1,1),(2,1),(3,1),(4,2),(6,1)]:=hi underlying101 (fun _=>by kernel_rfl)
theorem EJ:Nh prog 110 #[(0,1),(1,1),(2,1),(3,1)]:=hi underlying110 (fun _=>by kernel_rfl)
theorem FJ:Nh prog 127 #[(0,1)]:=hi underlying127 (fun _=>by kernel_rfl)
theorem GJ:Nh prog 138 #[(0,1),(1,1),(2,1)]:=hi underlying138 (fun _=>by kernel_rfl)
theorem dD:Nh prog 140 #[(0,1),(1,1)]:=hi underlying140 (fun _=>by kernel_rfl)
theorem eD:Nh prog 147 #[(0,1),(1,1),(2,1),(3,1)]:=hi underlying147 (fun _=>by kernel_rfl)
theorem fD:Nh prog 149 #[(0,1),(1,1),(2,4),(6,1),(7,1)]:=hi underlying149 (fun _=>by kernel_rfl)
theorem HJ:Nh prog 168 #[(0,1),(1,1)]:=hi underlying168 (fun _=>by kernel_rfl)
theorem IJ:Nh prog 193 #[(0,1),(1,1),(2,1)]:=hi underlying193 (fun _=>by kernel_rfl)
theorem Pu:Nh prog 217 #[(0,1),(1,1)]:=hi underlying217 (fun _=>by kernel_rfl)
theorem tD:Nh prog 27 #[(0,1),(1,1)]:=hi underlying27 (fun _=>by kernel_rfl)
theorem Bl:Nh prog 30 #[(0,1),(1,1)]:=hi underlying30 (fun _=>by kernel_rfl)
theorem um:Nh prog 34 #[(0,1),(1,1),(2,1)]:=hi underlying34 (fun _=>by kernel_rfl)
theorem dK:Nh prog 42 #[(0,1),(1,1),(2,1),(3,1),(4,1),(5,1)]:=hi underlying42 (fun _=>by kernel_rfl)
theorem eK:Nh prog 44 #[(0,1),(1,1),(2,1)]:=hi underlying44 (fun _=>by kernel_rfl)
theorem fK:Nh prog 50 #[(0,1),(1,1),(2,1)]:=hi underlying50 (fun _=>by kernel_rfl)
theorem nx:Nh prog 53 #[(0,1),(1,1)]:=hi underlying53 (fun _=>by kernel_rfl)
theorem gK:Nh prog 57 #[(0,1),(1,1),(2,2),(4,2),(6,1),(7,1),(8,1)]:=hi underlying57 (fun _=>by kernel_rfl)
theorem hK:Nh prog 60 #[(0,1),(1,1)]:=hi underlying60 (fun _=>by kernel_rfl)
theorem iK:Nh prog 65 #[(0,1)]:=hi underlying65 (fun _=>by kernel_rfl)
theorem jK:Nh prog 75 #[(0,1),(1,1),(2,1)]:=hi underlying75 (fun _=>by kernel_rfl)
theorem kK:Nh prog 85 #[(0,1),(1,6),(7,1)]:=hi underlying85 (fun _=>by kernel_rfl)
theorem uD:Nh prog 99 #[(0,1),(1,1)]:=hi underlying99 (fun _=>by kernel_rfl)
theorem gD:∀ w,(zeroValue 135).run prog w=.ok (.agg #[.slice none 0 0,.slice none 0 0,.slice none 0 0]) w:=Ku (by kernel_rfl)
theorem Xm:∀ w,(zeroValue 3).run prog w=.ok (.int .i64 0) w:=Ku (by kernel_rfl)
theorem Xq:∀ w,(zeroValue 51).run prog w=.ok (.pointer none) w:=Ku (by kernel_rfl)
theorem lK:∀ w,(zeroValue 53).run prog w=.ok (.agg #[.int .i64 0,S []]) w:=Ku (by kernel_rfl)
theorem Bz:∀ w,(zeroValue 99).run prog w=.ok (.agg #[.slice none 0 0,.slice none 0 0]) w:=Ku (by kernel_rfl)
end Go.Proofs.YtfmlfolepjbgaaaGreatDoor
namespace Go.Proofs
open Go.Shelf
def Tryz.ZD:Go.Shelf.Ren:=⟨fun | 174=>40 | 247=>69 | 245=>70 | 287=>90 | 279=>91 | 280=>92 | 281=>93 | 282=>94 | 321=>106 | 322=>107 | 316=>108 | 171=>110 | 205=>109 | 243=>117 | 246=>126 | 283=>136 | 284=>137 | 285=>138 | 286=>139 | 129=>145 | 317=>144 | 318=>146 | 319=>147 | 320=>148 | 337=>149 | 338=>150 | n=>n,fun | 9=>9 | 3=>3 | 2=>2 | 75=>114 | 85=>115 | 4=>4 | 167=>178 | 5=>5 | 53=>179 | 175=>180 | 46=>182 | 168=>183 | 37=>200 | 0=>0 | 210=>202 | 21=>21 | 127=>210 | 145=>213 | 143=>211 | 171=>229 | 173=>232 | 212=>240 | 51=>234 | 20=>20 | 213=>241 | 232=>244 | 233=>245 | 80=>119 | n=>n,fun | 15=>0 | 16=>1 | 17=>3 | 18=>4 | 19=>5 | n=>n⟩
theorem Tryz.sG:Go.Proofs.LaysC.n174 Tryz.prog Tryz.ZD:={
 mixed:=by kernel_rfl
 f129:=Tryz.func145.trans (congrArg some (by kernel_rfl))
 f171:=Tryz.func110.trans (congrArg some (by kernel_rfl))
 f174:=Tryz.func40.trans (congrArg some (by kernel_rfl))
 f205:=Tryz.func109.trans (congrArg some (by kernel_rfl))
 f243:=Tryz.func117.trans (congrArg some (by kernel_rfl))
 f245:=Tryz.func70.trans (congrArg some (by kernel_rfl))
 f246:=Tryz.func126.trans (congrArg some (by kernel_rfl))
 f247:=Tryz.func69.trans (congrArg some (by kernel_rfl))
 f279:=Tryz.func91.trans (congrArg some (by kernel_rfl))
 f280:=Tryz.func92.trans (congrArg some (by kernel_rfl))
 f281:=Tryz.func93.trans (congrArg some (by kernel_rfl))
 f282:=Tryz.func94.trans (congrArg some (by kernel_rfl))
 f283:=Tryz.func136.trans (congrArg some (by kernel_rfl))
 f284:=Tryz.func137.trans (congrArg some (by kernel_rfl))
 f285:=Tryz.func138.trans (congrArg some (by kernel_rfl))
 f286:=Tryz.func139.trans (congrArg some (by kernel_rfl))
 f287:=Tryz.func90.trans (congrArg some (by kernel_rfl))
 f316:=Tryz.func108.trans (congrArg some (by kernel_rfl))
 f317:=Tryz.func144.trans (congrArg some (by kernel_rfl))
 f318:=Tryz.func146.trans (congrArg some (by kernel_rfl))
 f319:=Tryz.func147.trans (congrArg some (by kernel_rfl))
 f320:=Tryz.func148.trans (congrArg some (by kernel_rfl))
 f321:=Tryz.func106.trans (congrArg some (by kernel_rfl))
 f322:=Tryz.func107.trans (congrArg some (by kernel_rfl))
 f337:=Tryz.func149.trans (congrArg some (by kernel_rfl))
 f338:=Tryz.func150.trans (congrArg some (by kernel_rfl))
 t0:=Tryz.underlying0
 a0:=Tryz.isAgg0
 z0:=Tryz.sizeOf0
 v0:=Tryz.zeroValue0
 t2:=Tryz.underlying2
 a2:=Tryz.isAgg2
 z2:=Tryz.sizeOf2
 v2:=Tryz.zeroValue2
 t3:=Tryz.underlying3
 a3:=Tryz.isAgg3
 z3:=Tryz.sizeOf3
 v3:=Tryz.zeroValue3
 t4:=Tryz.underlying4
 a4:=Tryz.isAgg4
 z4:=Tryz.sizeOf4
 v4:=Tryz.zeroValue4
 t5:=Tryz.underlying5
 a5:=Tryz.isAgg5
 z5:=Tryz.sizeOf5
 v5:=Tryz.zeroValue5
 t9:=Tryz.underlying9
 a9:=Tryz.isAgg9
 z9:=Tryz.sizeOf9
 v9:=Tryz.zeroValue9
 t20:=Tryz.underlying20
 a20:=Tryz.isAgg20
 z20:=Tryz.sizeOf20
 v20:=Tryz.zeroValue20
 t21:=Tryz.underlying21
 a21:=Tryz.isAgg21
 z21:=Tryz.sizeOf21
 v21:=Tryz.zeroValue21
 t37:=Tryz.underlying200
 a37:=Tryz.isAgg200
 z37:=Tryz.sizeOf200
 v37:=Tryz.zeroValue200
 t46:=Tryz.underlying182
 a46:=Tryz.isAgg182
 z46:=Tryz.sizeOf182
 v46:=Tryz.zeroValue182
 t51:=Tryz.underlying234
 a51:=Tryz.isAgg234
 z51:=Tryz.sizeOf234
 v51:=Tryz.zeroValue234
 t53:=Tryz.underlying179
 a53:=Tryz.isAgg179
 z53:=Tryz.sizeOf179
 v53:=Tryz.zeroValue179
 t75:=Tryz.underlying114
 a75:=Tryz.isAgg114
 z75:=Tryz.sizeOf114
 v75:=Tryz.zeroValue114
 t85:=Tryz.underlying115
 a85:=Tryz.isAgg115
 z85:=Tryz.sizeOf115
 v85:=Tryz.zeroValue115
 t127:=Tryz.underlying210
 a127:=Tryz.isAgg210
 z127:=Tryz.sizeOf210
 v127:=Tryz.zeroValue210
 t143:=Tryz.underlying211
 a143:=Tryz.isAgg211
 z143:=Tryz.sizeOf211
 v143:=Tryz.zeroValue211
 t145:=Tryz.underlying213
 a145:=Tryz.isAgg213
 z145:=Tryz.sizeOf213
 v145:=Tryz.zeroValue213
 t167:=Tryz.underlying178
 a167:=Tryz.isAgg178
 z167:=Tryz.sizeOf178
 v167:=Tryz.zeroValue178
 t168:=Tryz.underlying183
 a168:=Tryz.isAgg183
 z168:=Tryz.sizeOf183
 v168:=Tryz.zeroValue183
 t171:=Tryz.underlying229
 a171:=Tryz.isAgg229
 z171:=Tryz.sizeOf229
 v171:=Tryz.zeroValue229
 t173:=Tryz.underlying232
 a173:=Tryz.isAgg232
 z173:=Tryz.sizeOf232
 v173:=Tryz.zeroValue232
 t175:=Tryz.underlying180
 a175:=Tryz.isAgg180
 z175:=Tryz.sizeOf180
 v175:=Tryz.zeroValue180
 t210:=Tryz.underlying202
 a210:=Tryz.isAgg202
 z210:=Tryz.sizeOf202
 v210:=Tryz.zeroValue202
 t212:=Tryz.underlying240
 a212:=Tryz.isAgg240
 z212:=Tryz.sizeOf240
 v212:=Tryz.zeroValue240
 t213:=Tryz.underlying241
 a213:=Tryz.isAgg241
 z213:=Tryz.sizeOf241
 t232:=Tryz.underlying244
 a232:=Tryz.isAgg244
 z232:=Tryz.sizeOf244
 v232:=Tryz.zeroValue244
 t233:=Tryz.underlying245
 a233:=Tryz.isAgg245
 z233:=Tryz.sizeOf245
 v233:=Tryz.zeroValue245
 g15:=by kernel_rfl
 g16:=by kernel_rfl
 g17:=by kernel_rfl
 g18:=by kernel_rfl
 g19:=by kernel_rfl
 t80:=Tryz.underlying119
 a80:=Tryz.isAgg119
 z80:=Tryz.sizeOf119
 v80:=Tryz.zeroValue119
 i0:=by kernel_rfl
 i2:=by kernel_rfl
 i3:=by kernel_rfl
 i4:=by kernel_rfl
 i5:=by kernel_rfl
 i9:=by kernel_rfl
 i20:=by kernel_rfl
 i21:=by kernel_rfl
 i37:=by kernel_rfl
 i46:=by kernel_rfl
 i51:=by kernel_rfl
 i53:=by kernel_rfl
 i75:=by kernel_rfl
 i80:=by kernel_rfl
 i85:=by kernel_rfl
 i127:=by kernel_rfl
 i143:=by kernel_rfl
 i145:=by kernel_rfl
 i167:=by kernel_rfl
 i168:=by kernel_rfl
 i171:=by kernel_rfl
 i173:=by kernel_rfl
 i175:=by kernel_rfl
 i210:=by kernel_rfl
 i212:=by kernel_rfl
 i232:=by kernel_rfl
 i233:=by kernel_rfl
 m15:=by kernel_rfl
 m16:=by kernel_rfl
 m17:=by kernel_rfl
 m18:=by kernel_rfl
 m19:=by kernel_rfl
 c0:=by kernel_rfl
 c2:=by kernel_rfl
 c3:=by kernel_rfl
 c4:=by kernel_rfl
 c5:=by kernel_rfl
 c9:=by kernel_rfl
 c20:=by kernel_rfl
 c21:=by kernel_rfl
 c37:=by kernel_rfl
 c46:=by kernel_rfl
 c51:=by kernel_rfl
 c53:=by kernel_rfl
 c75:=by kernel_rfl
 c80:=by kernel_rfl
 c85:=by kernel_rfl
 c127:=by kernel_rfl
 c143:=by kernel_rfl
 c145:=by kernel_rfl
 c167:=by kernel_rfl
 c168:=by kernel_rfl
 c171:=by kernel_rfl
 c173:=by kernel_rfl
 c175:=by kernel_rfl
 c210:=by kernel_rfl
 c212:=by kernel_rfl
 c213:=by kernel_rfl
 c232:=by kernel_rfl
 c233:=by kernel_rfl }
open Go.RowKit in
theorem Tryz.strconv_ParseInt_10_at64_ok (s:ByteArray) (a:s.size≤9223372036854775806) (v:Int) (h:Lib.parseIntB 64 s.data.toList=.ok v) (w:World) :
  Calls Tryz.prog 40 #[.string s,.int .i64 10,.int .i64 64] w fun e w'=>e=.returned (.tuple #[.int .i64 v,.nilIface])∧(w'=w∨∃ t,w'=Lib.bytesWorld w 5 t):=Any.strconv_ParseInt_10_at64_ok Tryz.sG s a v h w
def Tryz.tE:Go.Shelf.Ren:=⟨fun | 144=>96 | 143=>111 | 219=>118 | 217=>127 | 225=>128 | 224=>129 | 267=>130 | 266=>140 | 314=>141 | n=>n,fun | 9=>9 | 4=>4 | 3=>3 | 5=>5 | 46=>182 | 146=>235 | 51=>234 | n=>n,fun | 1=>2 | n=>n⟩
theorem Tryz.pH:Go.Proofs.Lays.n144 Tryz.prog Tryz.tE:={
 mixed:=by kernel_rfl
 f143:=Tryz.func111.trans (congrArg some (by kernel_rfl))
 f144:=Tryz.func96.trans (congrArg some (by kernel_rfl))
 f217:=Tryz.func127.trans (congrArg some (by kernel_rfl))
 f219:=Tryz.func118.trans (congrArg some (by kernel_rfl))
 f224:=Tryz.func129.trans (congrArg some (by kernel_rfl))
 f225:=Tryz.func128.trans (congrArg some (by kernel_rfl))
 f266:=Tryz.func140.trans (congrArg some (by kernel_rfl))
 f267:=Tryz.func130.trans (congrArg some (by kernel_rfl))
 f314:=Tryz.func141.trans (congrArg some (by kernel_rfl))
 t3:=Tryz.underlying3
 a3:=Tryz.isAgg3
 z3:=Tryz.sizeOf3
 v3:=Tryz.zeroValue3
 t4:=Tryz.underlying4
 a4:=Tryz.isAgg4
 z4:=Tryz.sizeOf4
 v4:=Tryz.zeroValue4
 t5:=Tryz.underlying5
 a5:=Tryz.isAgg5
 z5:=Tryz.sizeOf5
 v5:=Tryz.zeroValue5
 t9:=Tryz.underlying9
 a9:=Tryz.isAgg9
 z9:=Tryz.sizeOf9
 v9:=Tryz.zeroValue9
 t46:=Tryz.underlying182
 a46:=Tryz.isAgg182
 z46:=Tryz.sizeOf182
 v46:=Tryz.zeroValue182
 t51:=Tryz.underlying234
 a51:=Tryz.isAgg234
 z51:=Tryz.sizeOf234
 v51:=Tryz.zeroValue234
 t146:=Tryz.underlying235
 a146:=Tryz.isAgg235
 z146:=Tryz.sizeOf235
 v146:=Tryz.zeroValue235
 g1:=by kernel_rfl }
open Go.RowKit Go.Lib in
theorem Tryz.strings_Contains (s sub:ByteArray) (m:Int) (w:World) (hs:s.size<4294967281) (hm:w.cell? ⟨2,0,none⟩=some (.int .i64 m)) :
  Calls Tryz.prog 96 #[.string s,.string sub] w fun e w'=>e=.returned (.bool (Lib.contains s.data.toList sub.data.toList))∧w'=w:=Any.strings_Contains Tryz.pH s sub m w hs hm
def Tryz.uE:Go.Shelf.Ren:=⟨fun | 107=>66 | 108=>89 | n=>n,fun | 28=>39 | 3=>3 | 4=>4 | 0=>0 | n=>n,fun | n=>n⟩
theorem Tryz.YB:Go.Proofs.Lays.n107 Tryz.prog Tryz.uE:={
 mixed:=by kernel_rfl
 f107:=Tryz.func66.trans (congrArg some (by kernel_rfl))
 f108:=Tryz.func89.trans (congrArg some (by kernel_rfl))
 t0:=Tryz.underlying0
 a0:=Tryz.isAgg0
 z0:=Tryz.sizeOf0
 v0:=Tryz.zeroValue0
 t3:=Tryz.underlying3
 a3:=Tryz.isAgg3
 z3:=Tryz.sizeOf3
 v3:=Tryz.zeroValue3
 t4:=Tryz.underlying4
 a4:=Tryz.isAgg4
 z4:=Tryz.sizeOf4
 v4:=Tryz.zeroValue4
 t28:=Tryz.underlying39
 a28:=Tryz.isAgg39
 z28:=Tryz.sizeOf39
 v28:=Tryz.zeroValue39 }
open Go.Lib in
theorem Tryz.slices_Contains_int (b off n c:Nat) (a:List Int) (x:Int) (w:World) (d:n≤a.length) (f:n≤9223372036854775807) (g:∀ j,j<a.length→w.cell? ⟨b,off+j,none⟩=some (.int .i64 (a.getD j 0))) :
  Calls Tryz.prog 66 #[.slice (some ⟨b,off,none⟩) n c,.int .i64 x] w fun e w'=>e=.returned (.bool ((a.take n).contains x))∧w'=w:=Any.slices_Contains_int Tryz.YB b off n c a x w d f g
open Go.Lib in
theorem Tryz.slices_Contains_int_empty (a:Option Addr) (c:Nat) (x:Int) (w:World) :
  Calls Tryz.prog 66 #[.slice a 0 c,.int .i64 x] w fun e w'=>e=.returned (.bool false)∧w'=w:=Any.slices_Contains_int_empty Tryz.YB a c x w
def Tryz.vE:Go.Shelf.Ren:=⟨fun | 110=>52 | 109=>82 | n=>n,fun | 31=>133 | 9=>9 | 4=>4 | 3=>3 | 0=>0 | n=>n,fun | n=>n⟩
theorem Tryz.ZB:Go.Proofs.Lays.n110 Tryz.prog Tryz.vE:={
 mixed:=by kernel_rfl
 f109:=Tryz.func82.trans (congrArg some (by kernel_rfl))
 f110:=Tryz.func52.trans (congrArg some (by kernel_rfl))
 t0:=Tryz.underlying0
 a0:=Tryz.isAgg0
 z0:=Tryz.sizeOf0
 v0:=Tryz.zeroValue0
 t3:=Tryz.underlying3
 a3:=Tryz.isAgg3
 z3:=Tryz.sizeOf3
 v3:=Tryz.zeroValue3
 t4:=Tryz.underlying4
 a4:=Tryz.isAgg4
 z4:=Tryz.sizeOf4
 v4:=Tryz.zeroValue4
 t9:=Tryz.underlying9
 a9:=Tryz.isAgg9
 z9:=Tryz.sizeOf9
 v9:=Tryz.zeroValue9
 t31:=Tryz.underlying133
 a31:=Tryz.isAgg133
 z31:=Tryz.sizeOf133
 v31:=Tryz.zeroValue133 }
open Go.Lib in
theorem Tryz.slices_Contains_string (b off n c:Nat) (a:List ByteArray) (x:ByteArray) (w:World) (d:n≤a.length) (f:n≤9223372036854775807) (g:∀ j,j<a.length→w.cell? ⟨b,off+j,none⟩=some (.string (a.getD j ByteArray.empty))) :
  Calls Tryz.prog 52 #[.slice (some ⟨b,off,none⟩) n c,.string x] w fun e w'=>e=.returned (.bool (Lib.containsS (a.take n) x))∧w'=w:=Any.slices_Contains_string Tryz.ZB b off n c a x w d f g
open Go.Lib in
theorem Tryz.slices_Contains_string_empty (a:Option Addr) (c:Nat) (x:ByteArray) (w:World) :
  Calls Tryz.prog 52 #[.slice a 0 c,.string x] w fun e w'=>e=.returned (.bool false)∧w'=w:=Any.slices_Contains_string_empty Tryz.ZB a c x w
def Tryz.UD:Go.Shelf.Ren:=⟨fun | 15=>59 | n=>n,fun | 22=>39 | 3=>3 | 4=>4 | n=>n,fun | n=>n⟩
theorem Tryz.ay:Go.Proofs.Lays2.n15 Tryz.prog Tryz.UD:={
 mixed:=by kernel_rfl
 f15:=Tryz.func59.trans (congrArg some (by kernel_rfl))
 t3:=Tryz.underlying3
 a3:=Tryz.isAgg3
 z3:=Tryz.sizeOf3
 v3:=Tryz.zeroValue3
 t4:=Tryz.underlying4
 a4:=Tryz.isAgg4
 z4:=Tryz.sizeOf4
 v4:=Tryz.zeroValue4
 t22:=Tryz.underlying39
 a22:=Tryz.isAgg39
 z22:=Tryz.sizeOf39
 v22:=Tryz.zeroValue39
 i3:=by kernel_rfl }
open Go.RowKit Go.Lib in
theorem Tryz.slices_Clone_int (b off n c:Nat) (a:List Int) (w:World) (f:n≤a.length) (g:n*8≤140737488355328) (h:∀ j,j<a.length→w.cell? ⟨b,off+j,none⟩=some (.int .i64 (a.getD j 0))) :
  Calls Tryz.prog 59 #[.slice (some ⟨b,off,none⟩) n c] w fun e w'=>∃ d,e=.returned d∧w'.ownsRow w.heap.size 3 1 d n ((a.take n).map (Value.int .i64))∧d≠.slice none 0 0∧Below w.heap.size w w':=Any.slices_Clone_int Tryz.ay b off n c a w f g h
open Go.RowKit Go.Lib in
theorem Tryz.slices_Clone_int_nil (n c:Nat) (w:World) :
  Calls Tryz.prog 59 #[.slice none n c] w fun e w'=>e=.returned (.slice none 0 0)∧w'=w:=Any.slices_Clone_int_nil Tryz.ay n c w
open Go.RowKit Go.Lib in
theorem Tryz.slices_Clone_int_zero (a:Addr) (c:Nat) (w:World) :
  Calls Tryz.prog 59 #[.slice (some a) 0 c] w fun e w'=>∃ b,e=.returned b∧w'.ownsRow w.heap.size 3 1 b 0 []∧b≠.slice none 0 0∧Below w.heap.size w w':=Any.slices_Clone_int_zero Tryz.ay a c w
def Tryz.PD:Go.Shelf.Ren:=⟨fun | 41=>60 | n=>n,fun | 22=>97 | 23=>4 | 4=>4 | n=>n,fun | n=>n⟩
theorem Tryz.Xz:Go.Proofs.SlLaysE0.n41 Tryz.prog Tryz.PD:={
 mixed:=by kernel_rfl
 f41:=⟨Tryz.f60.name,by decide,Tryz.func60.trans (congrArg some (by kernel_rfl))⟩
 t4:=Tryz.underlying4
 a4:=Tryz.isAgg4
 z4:=Tryz.sizeOf4
 v4:=Tryz.zeroValue4
 t22:=Tryz.underlying97
 a22:=Tryz.isAgg97
 z22:=Tryz.sizeOf97
 v22:=Tryz.zeroValue97 }
open Go.RowKit Go.Lib in
theorem Tryz.QD (i0:TypeInfo) (z:Value) (size bytes:Nat) (d:Tryz.prog.info? 4=some i0) (f:i0.zero=some z) (g:i0.size=size) (h:i0.bytes=bytes) (i:z.cells.size=size) (k:0<size) (z23:∀ w,(Go.sizeOf 4).run Tryz.prog w=.ok size w) (b off n c:Nat) (news:List Value) (w:World) (qa:news.length=n*size) (l:n≤maxLen) (m:n*bytes≤140737488355328) (o:∀ j u,news[j]?=some u→w.cell? ⟨b,off+j,none⟩=some u) (p:∀ u ∈ news,u.oneCell'=true) :
  Calls Tryz.prog 60 #[.slice (some ⟨b,off,none⟩) n c] w fun e w'=>∃ a,e=.returned a∧w'.ownsRow w.heap.size 4 size a n news∧a≠.slice none 0 0∧Below w.heap.size w w':=AnyE.slices_Clone Tryz.Xz i0 z size bytes d f g h i k z23 b off n c news w qa l m o p
open Go.RowKit Go.Lib in
theorem Tryz.OD (n c:Nat) (w:World) :
  Calls Tryz.prog 60 #[.slice none n c] w fun e w'=>e=.returned (.slice none 0 0)∧w'=w:=AnyE.slices_Clone_nil Tryz.Xz n c w
end Go.Proofs
namespace Go.Proofs.YtfmlfolepjbgaaaGreatDoor
open Go.oc Go.sd Go.Y Tryz
def Ic:M:=fun w=>∃ m,w.cell? ⟨2,0,none⟩=some (.int .i64 m)
theorem zI {I:M}{J w:World}{O:List dc}{l:List UInt8}{r:Int}(g:wz l=some r) (b:ka I J w O) :
  pc prog 40 [S l,.int .i64 10,.int .i64 64] w (fun v w'=>v=.tuple ⟨[.int .i64 r,.nilIface]⟩∧ka I J w' O):=by
 unfold wz at g;split at g
 ·rename_i qa;cases a:Lib.parseIntB 64 l with
  | ok v =>
   rw [a] at g;obtain rfl:=Option.some.inj g;refine ⟨(strconv_ParseInt_10_at64_ok ⟨⟨l⟩⟩ qa v a w).mono fun e w' he=>?_⟩;obtain ⟨rfl,hw⟩:=he;refine ⟨rfl,?_⟩;rcases hw with rfl | ⟨t,rfl⟩
   ·exact b
   ·have h:=Lib.bytesWorld_below w 5 t;exact b.grow ⟨h.os,h.tape,h.output,h.size,fun k c _=>h.block k c⟩
  | _=>rw [a] at g; cases g
 ·cases g
theorem qH {I:M}{J w:World}{O:List dc}{l sub:List UInt8}{b:Bool}(d:ea Ic I) (g:Zw l sub=some b) (c:ka I J w O) :
  pc prog 96 [S l,S sub] w (fun v w'=>v=.bool b∧ka I J w' O):=by
 unfold Zw at g;split at g
 ·rename_i qa;obtain rfl:=Option.some.inj g;obtain ⟨m,hm⟩:=d w c.a;refine ⟨(strings_Contains ⟨⟨l⟩⟩ ⟨⟨sub⟩⟩ m w qa hm).mono fun e w' he=>?_⟩;obtain ⟨rfl,rfl⟩:=he;exact ⟨rfl,c⟩
 ·cases g
end Go.Proofs.YtfmlfolepjbgaaaGreatDoor
namespace Go.Proofs.YtfmlfolepjbgaaaGreatDoor
open Go.oc Go.sd Go.Y Go.RowKit Tryz
section
variable {μ I:M}{J w:World}{O rs:List dc}
def Ws (w:World) (v:Value) (vs:List Value):Prop:=(vs=[]∧∃ a c,v=.slice a 0 c)∨∃ b o c,v=.slice (some ⟨b,o,none⟩) vs.length c∧vs.length≤9223372036854775807∧∀ j y,vs[j]?=some y→w.cell? ⟨b,o+j,none⟩=some y
theorem BB {α:Type}[Sa α]{f:α→Value}(a:∀ (μ:M) (l:List Value) (x:α),Sa.cs μ l x→l=[f x]):∀ {l:List α}{cells:List Value},ua μ cells l→cells=l.map f
 | [],cells,h=>by rw [ua] at h; simp [h]
 | x::l,cells,h=>by
  rw [ua] at h;obtain ⟨cs,t,rfl,b,c⟩:=h;rw [a _ _ _ b,BB a c];rfl
theorem Cs {α:Type}[Sa α]{f:α→Value}(c:∀ (μ:M) (l:List Value) (x:α),Sa.cs μ l x→l=[f x]){v:Value}{T:TypeId}{l:List α}{cells:List Value}(h:Row w v T 1 l.length cells) (d:ua μ cells l):Ws w v (l.map f):=by
 have e:=BB c d;subst e;rcases h.2 with ⟨rfl,b⟩ | ⟨g,o,cap,cur,rfl,i,k,b,n,m⟩
 ·exact .inl ⟨by rw [List.length_eq_zero_iff.1 b];rfl,none,0,rfl⟩
 ·refine .inr ⟨g,o,cap,by simp,by simp;exact Nat.le_trans k (Nat.le_trans b (by decide)),fun j y a=>?_⟩;rw [cell_of_row w g (o+j) cur T (0,0) i];rw [← m,List.getElem?_take] at a;split at a
  ·rw [List.getElem?_drop] at a;simpa using a
  ·cases a
theorem vy {α:Type}[Sa α]{f:α→Value}(g:∀ (μ:M) (l:List Value) (x:α),Sa.cs μ l x→l=[f x]) (i:Sa.sz α=1){a:Option Addr}{c:Nat}{l:List α}(h:Ra μ a c l) (hw:μ w):Ws w (.slice a l.length c) (l.map f):=by
 rcases h.el with rfl | ⟨b,o,rfl,p,k⟩
 ·exact .inl ⟨rfl,a,c,rfl⟩
 ·refine .inr ⟨b,o,c,by simp,by simp;exact Ra.len h,fun j y d=>?_⟩;simp only [List.getElem?_map,Option.map_eq_some_iff] at d;obtain ⟨x,m,rfl⟩:=d;obtain ⟨e,n⟩:=k j x m;rw [g _ _ _ n,i] at e;have:=e w hw 0 _ rfl;simpa using this
theorem Cz (μ:M) (l:List Value) (x:List UInt8) (h:Sa.cs μ l x):l=[S x]:=h
theorem ox (μ:M) (l:List Value) (x:Int) (h:Sa.cs μ l x):l=[.int .i64 x]:=h
theorem Fx {v:Value}{l:List (List UInt8)}{x:List UInt8}(h:Ws w v (l.map S)):pc prog 52 [v,S x] w (fun v w'=>v=.bool (l.contains x)∧w'=w):=by
 rcases h with ⟨f,a,c,rfl⟩ | ⟨b,o,c,rfl,qa,g⟩
 ·obtain rfl:l=[]:=List.map_eq_nil_iff.1 f;exact ⟨(slices_Contains_string_empty a c ⟨⟨x⟩⟩ w).mono fun e w' he=>by
   obtain ⟨rfl,rfl⟩:=he;exact ⟨rfl,rfl⟩⟩
 ·refine ⟨(slices_Contains_string b o (l.map S).length c (l.map fun y=>⟨⟨y⟩⟩) ⟨⟨x⟩⟩ w (by simp) qa ?_).mono fun e w' he=>?_⟩
  ·intro j i;have d:j<l.length:=by simpa using i
   rw [g j (S l[j]) (by simp [d])];simp [List.getElem?_eq_getElem d,S]
  ·obtain ⟨rfl,rfl⟩:=he;refine ⟨?_,rfl⟩;congr 1;rw [List.take_of_length_le (by simp),Bool.eq_iff_iff,Lib.containsS_iff,List.contains_iff_mem];constructor
   ·intro hm;obtain ⟨y,m,e⟩:=List.mem_map.1 hm;have k:y=x:=congrArg (fun b:ByteArray=>b.data.toList) e;rwa [← k]
   ·exact fun hm=>List.mem_map.2 ⟨x,hm,rfl⟩
theorem dA {v:Value}{l:List Int}{x:Int}(h:Ws w v (l.map (Value.int .i64))):pc prog 66 [v,.int .i64 x] w (fun v w'=>v=.bool (l.contains x)∧w'=w):=by
 rcases h with ⟨f,a,c,rfl⟩ | ⟨b,o,c,rfl,qa,g⟩
 ·obtain rfl:l=[]:=List.map_eq_nil_iff.1 f;exact ⟨(slices_Contains_int_empty a c x w).mono fun e w' he=>by
   obtain ⟨rfl,rfl⟩:=he;exact ⟨rfl,rfl⟩⟩
 ·refine ⟨(slices_Contains_int b o (l.map (Value.int .i64)).length c l x w (by simp) qa ?_).mono fun e w' he=>?_⟩
  ·intro j d;rw [g j (.int .i64 l[j]) (by simp [d])];simp [List.getElem?_eq_getElem d]
  ·obtain ⟨rfl,rfl⟩:=he;refine ⟨?_,rfl⟩;rw [List.take_of_length_le (by simp)]
theorem iB {v:Value}{l:List Int}(qa:l.length≤65536) (h:Ws w v (l.map (Value.int .i64))) (i:ka I J w rs) :
  pc prog 59 [v] w (fun m w'=>ka I J w' (.row m 3 1 l.length (l.map (Value.int .i64))::rs)):=by
 rcases h with ⟨q,a,c,rfl⟩ | ⟨b,o,c,rfl,s,r⟩
 ·obtain rfl:l=[]:=List.map_eq_nil_iff.1 q;cases a with
  | none=>exact ⟨(slices_Clone_int_nil 0 c w).mono fun e w' he=>by
    obtain ⟨rfl,rfl⟩:=he;exact i.Ti 3 1⟩
  | some a=>exact ⟨(slices_Clone_int_zero a c w).mono fun e w' he=>by
    obtain ⟨m,rfl,g,-,d⟩:=he;obtain ⟨n,f⟩:=Hx g;exact i.newRow ⟨d.os,d.tape,d.output,d.size,fun k f _=>d.block k f⟩ n f⟩
 ·refine ⟨(slices_Clone_int b o (l.map (Value.int .i64)).length c l w (by simp) (by simp;omega) ?_).mono fun e w' he=>?_⟩
  ·intro j p;rw [r j (.int .i64 l[j]) (by simp [p])];simp [List.getElem?_eq_getElem p]
  ·obtain ⟨m,rfl,g,-,d⟩:=he;rw [List.take_of_length_le (by simp),List.length_map] at g;obtain ⟨n,f⟩:=Hx g;exact i.newRow ⟨d.os,d.tape,d.output,d.size,fun k f _=>d.block k f⟩ n f
theorem jB {v:Value}{l:List Bool}(qa:l.length≤65536) (h:Ws w v (l.map Value.bool)) (d:ka I J w rs) :
  pc prog 60 [v] w (fun s w'=>ka I J w' (.row s 4 1 l.length (l.map Value.bool)::rs)):=by
 rcases h with ⟨f,a,c,rfl⟩ | ⟨b,o,c,rfl,E,y⟩
 ·obtain rfl:l=[]:=List.map_eq_nil_iff.1 f;cases a with
  | none=>exact ⟨(OD 0 c w).mono fun e w' he=>by
    obtain ⟨rfl,rfl⟩:=he;exact d.Ti 4 1⟩
  | some a =>
   refine enter func60 rfl (frm:=[_,_,_,_,_,_,_,_]) rfl ?_;refine ab ?_;refine nb ?_;refine wl (ky Ma (ma Ib) ?_);refine Na ?_;refine ra ?_;refine ab ?_;refine ab ?_;refine nb ?_;refine wl (oC (aa d0) (ma jc) ?_);refine wl (fH underlying97 (aa d3) (ma Kc) ?_);refine Na ?_;refine ra ?_;refine Yp (aa d4) ?_;refine Pa ?_;refine ra ?_;refine ab ?_;refine nb ?_;refine wl (WH underlying97 ck d ?_);clear d;intro Ef F G d;refine pu (ma Rc) ?_;replace d:=d.Ts (n:=0) (sz:=Sa.sz Bool) d0 rfl (by decide) Ja;refine wl (oC (aa d0) (ma Mc) ?_);refine wl (Uy (α:=Bool) (l:=[]) (ys:=[]) (news:=[]) underlying97 ck rfl (aa d5) (aa d6) d d0 (fun e=>absurd rfl e) rfl (show app [] []=some [] from rfl) (by decide) ?_);clear d;intro v2 H A B d;cases (show _=A from B);replace d:=Sep.Ff d Ja;refine pu (ma Cc) ?_;refine wl (ky (aa d7) (ma Ib) ?_);refine Na ?_;refine ra ?_;refine La ?_;refine yb rfl d2 ?_;exact d
 ·have C:∃ i z,prog.info? 4=some i∧i.zero=some z∧i.size=1∧i.bytes=1∧z.cells.size=1:=by
   obtain ⟨i,z,f,j,m,p,q⟩:=(ck).inf;exact ⟨i,z,f,j,p,q,by rw [m];rfl⟩
  obtain ⟨i,z,f,j,m,p,q⟩:=C;refine ⟨(QD i z 1 1 f j m p q (by decide) (fun w=>(ck).sizeOf) b o (l.map Value.bool).length c (l.map Value.bool) w (by simp) (by simp [maxLen];omega) (by simp;omega) y (fun u hu=>?_)).mono fun e w' he=>?_⟩
  ·obtain ⟨x,-,rfl⟩:=List.mem_map.1 hu;rfl
  ·obtain ⟨s,rfl,t,-,g⟩:=he;rw [List.length_map] at t;obtain ⟨D,r⟩:=Hx t;exact d.newRow ⟨g.os,g.tape,g.output,g.size,fun k r _=>g.block k r⟩ D r
theorem hD (μ:M) (l:List Value) (x:Bool) (h:Sa.cs μ l x):l=[.bool x]:=h
theorem iu {α:Type}[Sa α]{f:α→Value}(a:∀ (μ:M) (x:α),Sa.cs μ [f x] x):∀ (l:List α),ua μ (l.map f) l
 | []=>rfl
 | x::l=>⟨[f x],_,rfl,a μ x,iu a l⟩
end
end Go.Proofs.YtfmlfolepjbgaaaGreatDoor
