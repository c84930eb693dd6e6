/- Texts of Fl. -/
import Derived.Test.YthoigniombcphaaGreatDoorCXt
import Derived.Test.YthoigniombcphaaGreatDoorProg
import Derived.KernelRfl
import Derived.Shelf.Strconv.Itoa0
import Derived.Shelf.Strconv.Itoa1
import Derived.Shelf.LaysM
import Derived.Shelf.Strconv.Itoa2
import Derived.Shelf.Strconv.Itoa3
import Derived.Shelf.Strconv.Itoa4
import Derived.Shelf.Strconv.ParseIntEmpty
import Derived.Shelf.Strconv.Clone
import Derived.Shelf.Strconv.SyntaxError
import Derived.Shelf.LaysC
import Derived.Shelf.Strconv.ToError
import Derived.Shelf.Strconv.Lower
import Derived.Shelf.Strconv.ParseUint10
import Derived.Shelf.Strconv.ParseUint10Empty
import Derived.Shelf.Strconv.ParseUint10Any
import Derived.Shelf.Strconv.ParseInt10
import Derived.Shelf.Strconv.RangeError
import Derived.Shelf.Strconv.ToErrorRange
import Derived.Shelf.Strconv.ParseUintEmpty
import Derived.Shelf.Strconv.ParseUint10b64
import Derived.Shelf.Strconv.ParseUint10b32
import Derived.Shelf.Strconv.ParseUint10b16
import Derived.Shelf.Strconv.ParseUint10b8
import Derived.Shelf.Strconv.ParseUint10At
import Derived.Shelf.Strconv.ParseInt10At64
import Derived.Shelf.Strconv.ParseInt10At32
import Derived.Shelf.Strconv.ParseInt10At16
import Derived.Shelf.Strconv.ParseInt10At8
import Derived.Shelf.Strconv.ParseInt10All
import Derived.Shelf.Strconv.ParseIntPublic10
import Derived.Shelf.Strings.Search1
import Derived.Shelf.Strings.Search2
import Derived.Shelf.Strings.Search3
import Derived.Shelf.Strings.Shaped
import Derived.Shelf.Slices.Turned
import Derived.Test.YthoigniombcphaaGreatDoorCMd
import Derived.Test.YthoigniombcphaaGreatDoorCXu
import Derived.Lib.LaidTab
import Derived.Lib.SlicesS
import Derived.Lib.Builder
set_option linter.unusedSimpArgs false
set_option linter.unusedVariables false
set_option linter.unusedSectionVars false
namespace Go.Proofs.YthoigniombcphaaGreatDoor
open Go.bc Go.Dc Tryz
instance QL:yc prog 4:=Ic func4
instance RL:yc prog 5:=Ic func5
instance SL:yc prog 6:=Ic func6
instance TL:yc prog 7:=Ic func7
instance UL:yc prog 8:=Ic func8
instance TH:yc prog 9:=Ic func9
instance vK:yc prog 10:=Ic func10
instance wK:yc prog 11:=Ic func11
instance xK:yc prog 12:=Ic func12
instance yK:yc prog 13:=Ic func13
instance zK:yc prog 14:=Ic func14
instance LB:yc prog 15:=Ic func15
instance AK:yc prog 17:=Ic func17
instance GG:yc prog 18:=Ic func18
instance BK:yc prog 19:=Ic func19
instance ss:yc prog 20:=Ic func20
instance CK:yc prog 21:=Ic func21
instance HG:yc prog 22:=Ic func22
instance DK:yc prog 23:=Ic func23
instance IG:yc prog 24:=Ic func24
instance EK:yc prog 25:=Ic func25
instance yk:yc prog 26:=Ic func26
instance MB:yc prog 27:=Ic func27
instance JG:yc prog 28:=Ic func28
instance FK:yc prog 29:=Ic func29
instance GK:yc prog 30:=Ic func30
instance KG:yc prog 31:=Ic func31
instance jw:yc prog 32:=Ic func32
instance LG:yc prog 33:=Ic func33
instance dy:yc prog 34:=Ic func34
instance MG:yc prog 35:=Ic func35
instance HK:yc prog 36:=Ic func36
instance IK:yc prog 37:=Ic func37
instance JK:yc prog 38:=Ic func38
instance KK:yc prog 39:=Ic func39
instance LK:yc prog 40:=Ic func40
instance MK:yc prog 41:=Ic func41
instance NK:yc prog 42:=Ic func42
instance OK:yc prog 43:=Ic func43
instance PK:yc prog 44:=Ic func44
instance NG:yc prog 45:=Ic func45
instance QK:yc prog 46:=Ic func46
instance mw:yc prog 47:=Ic func47
instance OG:yc prog 48:=Ic func48
instance SK:yc prog 49:=Ic func49
instance iq:yc prog 50:=Ic func50
instance TK:yc prog 51:=Ic func51
instance UK:yc prog 52:=Ic func52
instance VK:yc prog 53:=Ic func53
instance WK:yc prog 54:=Ic func54
instance XK:yc prog 56:=Ic func56
instance PG:yc prog 57:=Ic func57
instance YK:yc prog 60:=Ic func60
instance ZK:yc prog 61:=Ic func61
instance aL:yc prog 62:=Ic func62
instance bL:yc prog 63:=Ic func63
instance cL:yc prog 64:=Ic func64
instance QG:yc prog 65:=Ic func65
instance ey:yc prog 66:=Ic func66
instance dL:yc prog 67:=Ic func67
instance RG:yc prog 68:=Ic func68
instance SG:yc prog 69:=Ic func69
instance eL:yc prog 70:=Ic func70
instance NB:yc prog 71:=Ic func71
instance fL:yc prog 73:=Ic func73
instance gL:yc prog 79:=Ic func79
instance ts:yc prog 80:=Ic func80
instance TG:yc prog 81:=Ic func81
instance UG:yc prog 82:=Ic func82
instance VG:yc prog 83:=Ic func83
instance hL:yc prog 84:=Ic func84
instance iL:yc prog 86:=Ic func86
instance fy:yc prog 87:=Ic func87
instance jL:yc prog 88:=Ic func88
instance kL:yc prog 90:=Ic func90
instance lL:yc prog 96:=Ic func96
instance OB:yc prog 97:=Ic func97
instance mL:yc prog 98:=Ic func98
instance VF:yc prog 103:=Ic func103
instance CJ:yc prog 104:=Ic func104
instance Mt:yc prog 105:=Ic func105
instance Uv:yc prog 106:=Ic func106
instance DJ:yc prog 107:=Ic func107
instance EJ:yc prog 108:=Ic func108
instance FJ:yc prog 110:=Ic func110
instance GJ:yc prog 116:=Ic func116
instance HJ:yc prog 117:=Ic func117
instance Sx:yc prog 118:=Ic func118
instance iB:yc prog 119:=Ic func119
instance XF:yc prog 120:=Ic func120
instance IJ:yc prog 127:=Ic func127
instance JJ:yc prog 128:=Ic func128
instance KJ:yc prog 129:=Ic func129
instance Gn:yc prog 130:=Ic func130
instance Tx:yc prog 131:=Ic func131
instance LJ:yc prog 134:=Ic func134
instance MJ:yc prog 135:=Ic func135
instance jB:yc prog 136:=Ic func136
instance NJ:yc prog 137:=Ic func137
instance OJ:yc prog 138:=Ic func138
instance PJ:yc prog 139:=Ic func139
instance Po:Lc prog 2 false [.int .i64 0] 1 8:=Ye (z:=.int .i64 0) underlying2
instance Uc:Lc prog 3 false [.int .i64 0] 1 8:=Ye (z:=.int .i64 0) underlying3
instance kJ:Lc prog 4 false [.bool false] 1 1:=Ye (z:=.bool false) underlying4
instance Iy:Lc prog 5 false [.int .u8 0] 1 1:=Ye (z:=.int .u8 0) underlying5
instance Hb:Lc prog 9 false [S []] 1 16:=Ye (z:=S []) underlying9
instance Cm:Lc prog 22 false [.slice none 0 0] 1 24:=Ye (z:=.slice none 0 0) underlying22
instance wu:Lc prog 24 false [.int .i64 0] 1 8:=Ye (z:=.int .i64 0) underlying24
instance wc:Lc prog 26 true [.int .i64 0,.int .i64 0] 2 16:=Ye (z:=.agg #[.int .i64 0,.int .i64 0]) underlying26
instance sq:Lc prog 31 false [.slice none 0 0] 1 24:=Ye (z:=.slice none 0 0) underlying31
instance nj:Lc prog 32 false [.slice none 0 0] 1 24:=Ye (z:=.slice none 0 0) underlying32
instance zj:Lc prog 34 true [.slice none 0 0,.slice none 0 0] 2 48:=Ye (z:=.agg #[.slice none 0 0,.slice none 0 0]) underlying34
instance Aw:Lc prog 40 false [.slice none 0 0] 1 24:=Ye (z:=.slice none 0 0) underlying40
instance Ck:Lc prog 41 false [.slice none 0 0] 1 24:=Ye (z:=.slice none 0 0) underlying41
instance xg:Lc prog 43 true [.int .i64 0,.int .i64 0,.slice none 0 0,.int .i64 0,.int .i64 0,.slice none 0 0] 6 80:=Ye (z:=.agg #[.int .i64 0,.int .i64 0,.slice none 0 0,.int .i64 0,.int .i64 0,.slice none 0 0]) underlying43
instance Wm:Lc prog 45 true [.int .i64 0,.int .i64 0,.int .i64 0] 3 24:=Ye (z:=.agg #[.int .i64 0,.int .i64 0,.int .i64 0]) underlying45
instance Bw:Lc prog 48 false [.pointer none] 1 8:=Ye (z:=.pointer none) underlying48
instance Js:Lc prog 49 false [.slice none 0 0] 1 24:=Ye (z:=.slice none 0 0) underlying49
instance yI:Lc prog 51 true [.pointer none,.slice none 0 0] 2 32:=Ye (z:=.agg #[.pointer none,.slice none 0 0]) underlying51
instance zI:Lc prog 53 true [.pointer none,.slice none 0 0] 2 32:=Ye (z:=.agg #[.pointer none,.slice none 0 0]) underlying53
instance Sn:Lc prog 55 false [.pointer none] 1 8:=Ye (z:=.pointer none) underlying55
instance Mb:Lc prog 57 true [.int .i64 0,S []] 2 24:=Ye (z:=.agg #[.int .i64 0,S []]) underlying57
instance Fp:Lc prog 58 false [.slice none 0 0] 1 24:=Ye (z:=.slice none 0 0) underlying58
instance Tn:Lc prog 59 false [.slice none 0 0] 1 24:=Ye (z:=.slice none 0 0) underlying59
instance Oe:Lc prog 61 true [.int .i64 0,S [],.int .i64 0,S [],.int .i64 0,S [],.int .i64 0,.slice none 0 0,.slice none 0 0] 9 128:=Ye (z:=.agg #[.int .i64 0,S [],.int .i64 0,S [],.int .i64 0,S [],.int .i64 0,.slice none 0 0,.slice none 0 0]) underlying61
instance Un:Lc prog 64 false [.slice none 0 0] 1 24:=Ye (z:=.slice none 0 0) underlying64
instance VL:Lc prog 69 false [.pointer none] 1 8:=Ye (z:=.pointer none) underlying69
instance AI:Lc prog 71 true [.slice none 0 0,.int .i64 0,.int .i64 0] 3 40:=Ye (z:=.agg #[.slice none 0 0,.int .i64 0,.int .i64 0]) underlying71
instance Dk:Lc prog 74 false [.pointer none] 1 8:=Ye (z:=.pointer none) underlying74
instance Yh:Lc prog 75 false [.map none] 1 8:=Ye (z:=.map none) underlying75
instance No:Lc prog 76 false [.map none] 1 8:=Ye (z:=.map none) underlying76
instance BI:Lc prog 78 true [.map none,.map none,.map none] 3 24:=Ye (z:=.agg #[.map none,.map none,.map none]) underlying78
instance tq:Lc prog 81 true [.int .i64 0,.int .i64 0] 2 16:=Ye (z:=.agg #[.int .i64 0,.int .i64 0]) underlying81
instance yh:Lc prog 86 true [S [],.int .i64 0,S []] 3 40:=Ye (z:=.agg #[S [],.int .i64 0,S []]) underlying86
instance CI:Lc prog 90 true [.int .i64 0] 1 8:=Ye (z:=.agg #[.int .i64 0]) underlying90
instance Ay:Lc prog 91 false [.nilFunc] 1 8:=Ye (z:=.nilFunc) underlying91
instance Kj:Lc prog 100 true [.int .i64 0,S [],.int .i64 0,.int .i64 0] 4 40:=Ye (z:=.agg #[.int .i64 0,S [],.int .i64 0,.int .i64 0]) underlying100
instance oq:Lc prog 117 false [.slice none 0 0] 1 24:=Ye (z:=.slice none 0 0) underlying117
instance UH:Lc prog 119 true [.pointer none,.int .i64 0,.int .i64 0,.slice none 0 0,.int .i64 0,.int .i64 0,.slice none 0 0,.slice none 0 0] 8 112:=Ye (z:=.agg #[.pointer none,.int .i64 0,.int .i64 0,.slice none 0 0,.int .i64 0,.int .i64 0,.slice none 0 0,.slice none 0 0]) underlying119
instance Xh:Lc prog 122 false [.slice none 0 0] 1 24:=Ye (z:=.slice none 0 0) underlying122
instance pc:Lc prog 124 true [.int .i64 0,.int .i64 0,S [],.slice none 0 0] 4 56:=Ye (z:=.agg #[.int .i64 0,.int .i64 0,S [],.slice none 0 0]) underlying124
instance Yf:Lc prog 126 true [.int .i64 0,S [],.int .i64 0,.int .i64 0,S [],.slice none 0 0,.slice none 0 0,.slice none 0 0] 8 128:=Ye (z:=.agg #[.int .i64 0,S [],.int .i64 0,.int .i64 0,S [],.slice none 0 0,.slice none 0 0,.slice none 0 0]) underlying126
instance ki:Lc prog 131 false [.slice none 0 0] 1 24:=Ye (z:=.slice none 0 0) underlying131
instance gu:Lc prog 141 false [.pointer none] 1 8:=Ye (z:=.pointer none) underlying141
instance iu:Lc prog 146 true [.slice none 0 0,.slice none 0 0,.slice none 0 0] 3 72:=Ye (z:=.agg #[.slice none 0 0,.slice none 0 0,.slice none 0 0]) underlying146
instance ju:Lc prog 149 true [S [],S [],S []] 3 48:=Ye (z:=.agg #[S [],S [],S []]) underlying149
instance VH:Lc prog 150 false [.pointer none] 1 8:=Ye (z:=.pointer none) underlying150
instance Ko:Lc prog 151 true [.slice none 0 0,.pointer none] 2 32:=Ye (z:=.agg #[.slice none 0 0,.pointer none]) underlying151
instance WH:Lc prog 168 true [.slice none 0 0,.map none] 2 32:=Ye (z:=.agg #[.slice none 0 0,.map none]) underlying168
instance Tm:Lc prog 192 false [.pointer none] 1 8:=Ye (z:=.pointer none) underlying192
instance Nn:Lc prog 193 false [.map none] 1 8:=Ye (z:=.map none) underlying193
instance Am:Lc prog 194 false [.slice none 0 0] 1 24:=Ye (z:=.slice none 0 0) underlying194
instance XH:Lc prog 196 true [.pointer none,.pointer none,.slice none 0 0] 3 40:=Ye (z:=.agg #[.pointer none,.pointer none,.slice none 0 0]) underlying196
instance Um:Lc prog 211 true [.map none,.bool false] 2 16:=Ye (z:=.agg #[.map none,.bool false]) underlying211
theorem DI:prog.eqGuardType prog.depth 26=false:=by kernel_rfl
theorem EI:prog.eqGuardType prog.depth 45=false:=by kernel_rfl
theorem pC:prog.eqGuardType prog.depth 57=false:=by kernel_rfl
theorem FI:prog.eqGuardType prog.depth 81=false:=by kernel_rfl
theorem GI:prog.stoodInHeld 26=false:=by kernel_rfl
theorem HI:prog.stoodInHeld 45=false:=by kernel_rfl
theorem qC:prog.stoodInHeld 57=false:=by kernel_rfl
theorem II:prog.stoodInHeld 81=false:=by kernel_rfl
instance QJ:se prog 100 0 0:=xe underlying100 rfl rfl rfl Uc rfl
instance RJ:se prog 100 1 1:=xe underlying100 rfl rfl rfl Hb rfl
instance SJ:se prog 100 2 2:=xe underlying100 rfl rfl rfl Po rfl
instance TJ:se prog 100 3 3:=xe underlying100 rfl rfl rfl Uc rfl
instance UJ:se prog 119 0 0:=xe underlying119 rfl rfl rfl Dk rfl
instance VJ:se prog 119 1 1:=xe underlying119 rfl rfl rfl xg rfl
instance WJ:se prog 119 2 7:=xe underlying119 rfl rfl rfl oq rfl
instance XJ:se prog 124 0 0:=xe underlying124 rfl rfl rfl Uc rfl
instance YJ:se prog 124 1 1:=xe underlying124 rfl rfl rfl Po rfl
instance ZJ:se prog 124 2 2:=xe underlying124 rfl rfl rfl Hb rfl
instance aK:se prog 124 3 3:=xe underlying124 rfl rfl rfl Xh rfl
instance bK:se prog 126 0 0:=xe underlying126 rfl rfl rfl Uc rfl
instance cK:se prog 126 1 1:=xe underlying126 rfl rfl rfl Hb rfl
instance dK:se prog 126 2 2:=xe underlying126 rfl rfl rfl pc rfl
instance eK:se prog 126 3 6:=xe underlying126 rfl rfl rfl Tn rfl
instance fK:se prog 126 4 7:=xe underlying126 rfl rfl rfl Tn rfl
instance gK:se prog 146 0 0:=xe underlying146 rfl rfl rfl ki rfl
instance hK:se prog 146 1 1:=xe underlying146 rfl rfl rfl ki rfl
instance iK:se prog 146 2 2:=xe underlying146 rfl rfl rfl ki rfl
instance jK:se prog 149 1 1:=xe underlying149 rfl rfl rfl Hb rfl
instance kK:se prog 149 2 2:=xe underlying149 rfl rfl rfl Hb rfl
instance lK:se prog 151 0 0:=xe underlying151 rfl rfl rfl ki rfl
instance mK:se prog 151 1 1:=xe underlying151 rfl rfl rfl VH rfl
instance nK:se prog 168 1 1:=xe underlying168 rfl rfl rfl No rfl
instance oK:se prog 196 0 0:=xe underlying196 rfl rfl rfl gu rfl
instance pK:se prog 196 1 1:=xe underlying196 rfl rfl rfl Sn rfl
instance qK:se prog 196 2 2:=xe underlying196 rfl rfl rfl Am rfl
instance rK:se prog 211 0 0:=xe underlying211 rfl rfl rfl Yh rfl
instance sK:se prog 211 1 1:=xe underlying211 rfl rfl rfl kJ rfl
instance nL:se prog 26 0 0:=xe underlying26 rfl rfl rfl wu rfl
instance oL:se prog 34 0 0:=xe underlying34 rfl rfl rfl sq rfl
instance pL:se prog 34 1 1:=xe underlying34 rfl rfl rfl nj rfl
instance qL:se prog 43 0 0:=xe underlying43 rfl rfl rfl Uc rfl
instance rL:se prog 43 1 1:=xe underlying43 rfl rfl rfl Uc rfl
instance sL:se prog 43 2 2:=xe underlying43 rfl rfl rfl Aw rfl
instance tL:se prog 43 3 3:=xe underlying43 rfl rfl rfl Uc rfl
instance uL:se prog 43 4 4:=xe underlying43 rfl rfl rfl Uc rfl
instance vL:se prog 43 5 5:=xe underlying43 rfl rfl rfl Ck rfl
instance wL:se prog 45 0 0:=xe underlying45 rfl rfl rfl Uc rfl
instance xL:se prog 45 1 1:=xe underlying45 rfl rfl rfl Uc rfl
instance gy:se prog 51 0 0:=xe underlying51 rfl rfl rfl Bw rfl
instance PB:se prog 51 1 1:=xe underlying51 rfl rfl rfl Js rfl
instance yL:se prog 53 0 0:=xe underlying53 rfl rfl rfl yI rfl
instance zL:se prog 57 0 0:=xe underlying57 rfl rfl rfl Uc rfl
instance AL:se prog 57 1 1:=xe underlying57 rfl rfl rfl Hb rfl
instance WG:se prog 61 0 0:=xe underlying61 rfl rfl rfl Uc rfl
instance BL:se prog 61 1 1:=xe underlying61 rfl rfl rfl Hb rfl
instance CL:se prog 61 2 2:=xe underlying61 rfl rfl rfl Mb rfl
instance DL:se prog 61 3 4:=xe underlying61 rfl rfl rfl Mb rfl
instance EL:se prog 61 4 6:=xe underlying61 rfl rfl rfl Uc rfl
instance FL:se prog 61 5 7:=xe underlying61 rfl rfl rfl Fp rfl
instance GL:se prog 61 6 8:=xe underlying61 rfl rfl rfl Tn rfl
instance HL:se prog 71 0 0:=xe underlying71 rfl rfl rfl Un rfl
instance IL:se prog 71 1 1:=xe underlying71 rfl rfl rfl Uc rfl
instance JL:se prog 71 2 2:=xe underlying71 rfl rfl rfl Uc rfl
instance KL:se prog 78 0 0:=xe underlying78 rfl rfl rfl Yh rfl
instance LL:se prog 78 1 1:=xe underlying78 rfl rfl rfl Yh rfl
instance ML:se prog 78 2 2:=xe underlying78 rfl rfl rfl No rfl
instance NL:se prog 86 0 0:=xe underlying86 rfl rfl rfl Hb rfl
instance OL:se prog 86 1 1:=xe underlying86 rfl rfl rfl Mb rfl
instance PL:se prog 90 0 0:=xe underlying90 rfl rfl rfl Uc rfl
theorem YH:gi prog 100 #[(0,1),(1,1),(2,1),(3,1)]:=Ki underlying100 (fun _=>by kernel_rfl)
theorem ZH:gi prog 119 #[(0,1),(1,6),(7,1)]:=Ki underlying119 (fun _=>by kernel_rfl)
theorem il:gi prog 124 #[(0,1),(1,1),(2,1),(3,1)]:=Ki underlying124 (fun _=>by kernel_rfl)
theorem On:gi prog 126 #[(0,1),(1,1),(2,4),(6,1),(7,1)]:=Ki underlying126 (fun _=>by kernel_rfl)
theorem aI:gi prog 149 #[(0,1),(1,1),(2,1)]:=Ki underlying149 (fun _=>by kernel_rfl)
theorem eC:gi prog 151 #[(0,1),(1,1)]:=Ki underlying151 (fun _=>by kernel_rfl)
theorem bI:gi prog 168 #[(0,1),(1,1)]:=Ki underlying168 (fun _=>by kernel_rfl)
theorem cI:gi prog 196 #[(0,1),(1,1),(2,1)]:=Ki underlying196 (fun _=>by kernel_rfl)
theorem ku:gi prog 211 #[(0,1),(1,1)]:=Ki underlying211 (fun _=>by kernel_rfl)
theorem Zi:gi prog 26 #[(0,1),(1,1)]:=Ki underlying26 (fun _=>by kernel_rfl)
theorem rC:gi prog 34 #[(0,1),(1,1)]:=Ki underlying34 (fun _=>by kernel_rfl)
theorem JI:gi prog 43 #[(0,1),(1,1),(2,1),(3,1),(4,1),(5,1)]:=Ki underlying43 (fun _=>by kernel_rfl)
theorem KI:gi prog 45 #[(0,1),(1,1),(2,1)]:=Ki underlying45 (fun _=>by kernel_rfl)
theorem LI:gi prog 53 #[(0,2)]:=Ki underlying53 (fun _=>by kernel_rfl)
theorem uq:gi prog 57 #[(0,1),(1,1)]:=Ki underlying57 (fun _=>by kernel_rfl)
theorem xu:gi prog 61 #[(0,1),(1,1),(2,2),(4,2),(6,1),(7,1),(8,1)]:=Ki underlying61 (fun _=>by kernel_rfl)
theorem MI:gi prog 71 #[(0,1),(1,1),(2,1)]:=Ki underlying71 (fun _=>by kernel_rfl)
theorem NI:gi prog 78 #[(0,1),(1,1),(2,1)]:=Ki underlying78 (fun _=>by kernel_rfl)
theorem OI:gi prog 81 #[(0,1),(1,1)]:=Ki underlying81 (fun _=>by kernel_rfl)
theorem sC:gi prog 86 #[(0,1),(1,2)]:=Ki underlying86 (fun _=>by kernel_rfl)
theorem PI:gi prog 90 #[(0,1)]:=Ki underlying90 (fun _=>by kernel_rfl)
theorem fC:∀ w,(zeroValue 146).run prog w=.ok (.agg #[.slice none 0 0,.slice none 0 0,.slice none 0 0]) w:=cu (by kernel_rfl)
theorem Zm:∀ w,(zeroValue 3).run prog w=.ok (.int .i64 0) w:=cu (by kernel_rfl)
theorem vq:∀ w,(zeroValue 55).run prog w=.ok (.pointer none) w:=cu (by kernel_rfl)
theorem QI:∀ w,(zeroValue 57).run prog w=.ok (.agg #[.int .i64 0,S []]) w:=cu (by kernel_rfl)
theorem Hw:∀ w,(zeroValue 9).run prog w=.ok (S []) w:=cu (by kernel_rfl)
end Go.Proofs.YthoigniombcphaaGreatDoor
namespace Go.Proofs
open Go.Shelf
def Tryz.OC:Go.Shelf.Ren:=⟨fun | 171=>28 | 243=>55 | 246=>72 | 283=>92 | 284=>93 | 285=>94 | 286=>95 | 129=>112 | 317=>111 | 318=>113 | 319=>114 | 320=>115 | 337=>125 | 338=>126 | n=>n,fun | 3=>3 | 9=>9 | 2=>2 | 4=>4 | 171=>178 | 0=>0 | 53=>159 | 37=>49 | 5=>5 | 173=>181 | 212=>203 | 51=>204 | 20=>20 | 213=>205 | 46=>162 | 232=>226 | 233=>227 | n=>n,fun | 17=>2 | 18=>4 | 19=>5 | n=>n⟩
theorem Tryz.hF:Go.Proofs.LaysM.n171 Tryz.prog Tryz.OC:={
 mixed:=by kernel_rfl
 f129:=Tryz.func112.trans (congrArg some (by kernel_rfl))
 f171:=Tryz.func28.trans (congrArg some (by kernel_rfl))
 f243:=Tryz.func55.trans (congrArg some (by kernel_rfl))
 f246:=Tryz.func72.trans (congrArg some (by kernel_rfl))
 f283:=Tryz.func92.trans (congrArg some (by kernel_rfl))
 f284:=Tryz.func93.trans (congrArg some (by kernel_rfl))
 f285:=Tryz.func94.trans (congrArg some (by kernel_rfl))
 f286:=Tryz.func95.trans (congrArg some (by kernel_rfl))
 f317:=Tryz.func111.trans (congrArg some (by kernel_rfl))
 f318:=Tryz.func113.trans (congrArg some (by kernel_rfl))
 f319:=Tryz.func114.trans (congrArg some (by kernel_rfl))
 f320:=Tryz.func115.trans (congrArg some (by kernel_rfl))
 f337:=Tryz.func125.trans (congrArg some (by kernel_rfl))
 f338:=Tryz.func126.trans (congrArg some (by kernel_rfl))
 t0:=Tryz.underlying0
 a0:=Tryz.isAgg0
 z0:=Tryz.sizeOf0
 v0:=Tryz.zeroValue0
 t2:=Tryz.underlying2
 a2:=Tryz.isAgg2
 z2:=Tryz.sizeOf2
 v2:=Tryz.zeroValue2
 t3:=Tryz.underlying3
 a3:=Tryz.isAgg3
 z3:=Tryz.sizeOf3
 v3:=Tryz.zeroValue3
 t4:=Tryz.underlying4
 a4:=Tryz.isAgg4
 z4:=Tryz.sizeOf4
 v4:=Tryz.zeroValue4
 t5:=Tryz.underlying5
 a5:=Tryz.isAgg5
 z5:=Tryz.sizeOf5
 v5:=Tryz.zeroValue5
 t9:=Tryz.underlying9
 a9:=Tryz.isAgg9
 z9:=Tryz.sizeOf9
 v9:=Tryz.zeroValue9
 t20:=Tryz.underlying20
 a20:=Tryz.isAgg20
 z20:=Tryz.sizeOf20
 v20:=Tryz.zeroValue20
 t37:=Tryz.underlying49
 a37:=Tryz.isAgg49
 z37:=Tryz.sizeOf49
 v37:=Tryz.zeroValue49
 t46:=Tryz.underlying162
 a46:=Tryz.isAgg162
 z46:=Tryz.sizeOf162
 v46:=Tryz.zeroValue162
 t51:=Tryz.underlying204
 a51:=Tryz.isAgg204
 z51:=Tryz.sizeOf204
 v51:=Tryz.zeroValue204
 t53:=Tryz.underlying159
 a53:=Tryz.isAgg159
 z53:=Tryz.sizeOf159
 v53:=Tryz.zeroValue159
 t171:=Tryz.underlying178
 a171:=Tryz.isAgg178
 z171:=Tryz.sizeOf178
 v171:=Tryz.zeroValue178
 t173:=Tryz.underlying181
 a173:=Tryz.isAgg181
 z173:=Tryz.sizeOf181
 v173:=Tryz.zeroValue181
 t212:=Tryz.underlying203
 a212:=Tryz.isAgg203
 z212:=Tryz.sizeOf203
 v212:=Tryz.zeroValue203
 t213:=Tryz.underlying205
 a213:=Tryz.isAgg205
 z213:=Tryz.sizeOf205
 t232:=Tryz.underlying226
 a232:=Tryz.isAgg226
 z232:=Tryz.sizeOf226
 v232:=Tryz.zeroValue226
 t233:=Tryz.underlying227
 a233:=Tryz.isAgg227
 z233:=Tryz.sizeOf227
 v233:=Tryz.zeroValue227
 g17:=by kernel_rfl
 g18:=by kernel_rfl
 g19:=by kernel_rfl
 i0:=by kernel_rfl
 i2:=by kernel_rfl
 i3:=by kernel_rfl
 i4:=by kernel_rfl
 i5:=by kernel_rfl
 i9:=by kernel_rfl
 i20:=by kernel_rfl
 i37:=by kernel_rfl
 i46:=by kernel_rfl
 i51:=by kernel_rfl
 i53:=by kernel_rfl
 i171:=by kernel_rfl
 i173:=by kernel_rfl
 i212:=by kernel_rfl
 i232:=by kernel_rfl
 i233:=by kernel_rfl
 m17:=by kernel_rfl
 m18:=by kernel_rfl
 m19:=by kernel_rfl }
open Go.RowKit Go.Sort Go.Lib in
theorem Tryz.strconv_Itoa (n : Int) (a : -9223372036854775808 ≤ n) (b : n ≤ 9223372036854775807) (w : World) (c : Lib.TabIs Tryz.prog w "internal/strconv.uint64pow10" .u64 Lib.pow10Tab) :
  Calls Tryz.prog 28 #[.int .i64 n] w fun e w'=>e=.returned (.string ⟨(Lib.itoa n).toArray⟩)∧∃ k os,w'=grow (w.drewN k) os:=Any.strconv_Itoa Tryz.hF n a b w c
def Tryz.PC:Go.Shelf.Ren:=⟨fun | 173=>97 | 246=>72 | 283=>92 | 284=>93 | 285=>94 | 286=>95 | 129=>112 | 317=>111 | 318=>113 | 319=>114 | 320=>115 | 337=>125 | 338=>126 | n=>n,fun | 2=>2 | 3=>3 | 9=>9 | 4=>4 | 171=>178 | 0=>0 | 53=>159 | 37=>49 | 5=>5 | 173=>181 | 212=>203 | 51=>204 | 20=>20 | 213=>205 | 46=>162 | 232=>226 | 233=>227 | n=>n,fun | 17=>2 | 18=>4 | 19=>5 | n=>n⟩
theorem Tryz.iF:Go.Proofs.LaysM.n173 Tryz.prog Tryz.PC:={
 mixed:=by kernel_rfl
 f129:=Tryz.func112.trans (congrArg some (by kernel_rfl))
 f173:=Tryz.func97.trans (congrArg some (by kernel_rfl))
 f246:=Tryz.func72.trans (congrArg some (by kernel_rfl))
 f283:=Tryz.func92.trans (congrArg some (by kernel_rfl))
 f284:=Tryz.func93.trans (congrArg some (by kernel_rfl))
 f285:=Tryz.func94.trans (congrArg some (by kernel_rfl))
 f286:=Tryz.func95.trans (congrArg some (by kernel_rfl))
 f317:=Tryz.func111.trans (congrArg some (by kernel_rfl))
 f318:=Tryz.func113.trans (congrArg some (by kernel_rfl))
 f319:=Tryz.func114.trans (congrArg some (by kernel_rfl))
 f320:=Tryz.func115.trans (congrArg some (by kernel_rfl))
 f337:=Tryz.func125.trans (congrArg some (by kernel_rfl))
 f338:=Tryz.func126.trans (congrArg some (by kernel_rfl))
 t0:=Tryz.underlying0
 a0:=Tryz.isAgg0
 z0:=Tryz.sizeOf0
 v0:=Tryz.zeroValue0
 t2:=Tryz.underlying2
 a2:=Tryz.isAgg2
 z2:=Tryz.sizeOf2
 v2:=Tryz.zeroValue2
 t3:=Tryz.underlying3
 a3:=Tryz.isAgg3
 z3:=Tryz.sizeOf3
 v3:=Tryz.zeroValue3
 t4:=Tryz.underlying4
 a4:=Tryz.isAgg4
 z4:=Tryz.sizeOf4
 v4:=Tryz.zeroValue4
 t5:=Tryz.underlying5
 a5:=Tryz.isAgg5
 z5:=Tryz.sizeOf5
 v5:=Tryz.zeroValue5
 t9:=Tryz.underlying9
 a9:=Tryz.isAgg9
 z9:=Tryz.sizeOf9
 v9:=Tryz.zeroValue9
 t20:=Tryz.underlying20
 a20:=Tryz.isAgg20
 z20:=Tryz.sizeOf20
 v20:=Tryz.zeroValue20
 t37:=Tryz.underlying49
 a37:=Tryz.isAgg49
 z37:=Tryz.sizeOf49
 v37:=Tryz.zeroValue49
 t46:=Tryz.underlying162
 a46:=Tryz.isAgg162
 z46:=Tryz.sizeOf162
 v46:=Tryz.zeroValue162
 t51:=Tryz.underlying204
 a51:=Tryz.isAgg204
 z51:=Tryz.sizeOf204
 v51:=Tryz.zeroValue204
 t53:=Tryz.underlying159
 a53:=Tryz.isAgg159
 z53:=Tryz.sizeOf159
 v53:=Tryz.zeroValue159
 t171:=Tryz.underlying178
 a171:=Tryz.isAgg178
 z171:=Tryz.sizeOf178
 v171:=Tryz.zeroValue178
 t173:=Tryz.underlying181
 a173:=Tryz.isAgg181
 z173:=Tryz.sizeOf181
 v173:=Tryz.zeroValue181
 t212:=Tryz.underlying203
 a212:=Tryz.isAgg203
 z212:=Tryz.sizeOf203
 v212:=Tryz.zeroValue203
 t213:=Tryz.underlying205
 a213:=Tryz.isAgg205
 z213:=Tryz.sizeOf205
 t232:=Tryz.underlying226
 a232:=Tryz.isAgg226
 z232:=Tryz.sizeOf226
 v232:=Tryz.zeroValue226
 t233:=Tryz.underlying227
 a233:=Tryz.isAgg227
 z233:=Tryz.sizeOf227
 v233:=Tryz.zeroValue227
 g17:=by kernel_rfl
 g18:=by kernel_rfl
 g19:=by kernel_rfl
 i0:=by kernel_rfl
 i2:=by kernel_rfl
 i3:=by kernel_rfl
 i4:=by kernel_rfl
 i5:=by kernel_rfl
 i9:=by kernel_rfl
 i20:=by kernel_rfl
 i37:=by kernel_rfl
 i46:=by kernel_rfl
 i51:=by kernel_rfl
 i53:=by kernel_rfl
 i171:=by kernel_rfl
 i173:=by kernel_rfl
 i212:=by kernel_rfl
 i232:=by kernel_rfl
 i233:=by kernel_rfl
 m17:=by kernel_rfl
 m18:=by kernel_rfl
 m19:=by kernel_rfl }
open Go.RowKit Go.Sort Go.Lib in
theorem Tryz.strconv_FormatInt_10 (n : Int) (a : -9223372036854775808 ≤ n) (b : n ≤ 9223372036854775807) (w : World) (c : Lib.TabIs Tryz.prog w "internal/strconv.uint64pow10" .u64 Lib.pow10Tab) :
  Calls Tryz.prog 97 #[.int .i64 n,.int .i64 10] w fun e w'=>e=.returned (.string ⟨(Lib.itoa n).toArray⟩)∧∃ k os,w'=grow (w.drewN k) os:=Any.strconv_FormatInt_10 Tryz.iF n a b w c
def Tryz.QC:Go.Shelf.Ren:=⟨fun | 174=>35 | 247=>58 | 245=>59 | 287=>74 | 279=>75 | 280=>76 | 281=>77 | 282=>78 | 321=>99 | 322=>100 | 316=>101 | 171=>28 | 205=>102 | 243=>55 | 246=>72 | 283=>92 | 284=>93 | 285=>94 | 286=>95 | 129=>112 | 317=>111 | 318=>113 | 319=>114 | 320=>115 | 337=>125 | 338=>126 | n=>n,fun | 9=>9 | 3=>3 | 2=>2 | 75=>104 | 85=>105 | 4=>4 | 167=>158 | 5=>5 | 53=>159 | 175=>160 | 46=>162 | 168=>163 | 37=>49 | 0=>0 | 210=>188 | 21=>21 | 127=>97 | 145=>214 | 143=>212 | 171=>178 | 173=>181 | 212=>203 | 51=>204 | 20=>20 | 213=>205 | 232=>226 | 233=>227 | 80=>63 | n=>n,fun | 15=>0 | 16=>1 | 17=>2 | 18=>4 | 19=>5 | n=>n⟩
theorem Tryz.jF:Go.Proofs.LaysC.n174 Tryz.prog Tryz.QC:={
 mixed:=by kernel_rfl
 f129:=Tryz.func112.trans (congrArg some (by kernel_rfl))
 f171:=Tryz.func28.trans (congrArg some (by kernel_rfl))
 f174:=Tryz.func35.trans (congrArg some (by kernel_rfl))
 f205:=Tryz.func102.trans (congrArg some (by kernel_rfl))
 f243:=Tryz.func55.trans (congrArg some (by kernel_rfl))
 f245:=Tryz.func59.trans (congrArg some (by kernel_rfl))
 f246:=Tryz.func72.trans (congrArg some (by kernel_rfl))
 f247:=Tryz.func58.trans (congrArg some (by kernel_rfl))
 f279:=Tryz.func75.trans (congrArg some (by kernel_rfl))
 f280:=Tryz.func76.trans (congrArg some (by kernel_rfl))
 f281:=Tryz.func77.trans (congrArg some (by kernel_rfl))
 f282:=Tryz.func78.trans (congrArg some (by kernel_rfl))
 f283:=Tryz.func92.trans (congrArg some (by kernel_rfl))
 f284:=Tryz.func93.trans (congrArg some (by kernel_rfl))
 f285:=Tryz.func94.trans (congrArg some (by kernel_rfl))
 f286:=Tryz.func95.trans (congrArg some (by kernel_rfl))
 f287:=Tryz.func74.trans (congrArg some (by kernel_rfl))
 f316:=Tryz.func101.trans (congrArg some (by kernel_rfl))
 f317:=Tryz.func111.trans (congrArg some (by kernel_rfl))
 f318:=Tryz.func113.trans (congrArg some (by kernel_rfl))
 f319:=Tryz.func114.trans (congrArg some (by kernel_rfl))
 f320:=Tryz.func115.trans (congrArg some (by kernel_rfl))
 f321:=Tryz.func99.trans (congrArg some (by kernel_rfl))
 f322:=Tryz.func100.trans (congrArg some (by kernel_rfl))
 f337:=Tryz.func125.trans (congrArg some (by kernel_rfl))
 f338:=Tryz.func126.trans (congrArg some (by kernel_rfl))
 t0:=Tryz.underlying0
 a0:=Tryz.isAgg0
 z0:=Tryz.sizeOf0
 v0:=Tryz.zeroValue0
 t2:=Tryz.underlying2
 a2:=Tryz.isAgg2
 z2:=Tryz.sizeOf2
 v2:=Tryz.zeroValue2
 t3:=Tryz.underlying3
 a3:=Tryz.isAgg3
 z3:=Tryz.sizeOf3
 v3:=Tryz.zeroValue3
 t4:=Tryz.underlying4
 a4:=Tryz.isAgg4
 z4:=Tryz.sizeOf4
 v4:=Tryz.zeroValue4
 t5:=Tryz.underlying5
 a5:=Tryz.isAgg5
 z5:=Tryz.sizeOf5
 v5:=Tryz.zeroValue5
 t9:=Tryz.underlying9
 a9:=Tryz.isAgg9
 z9:=Tryz.sizeOf9
 v9:=Tryz.zeroValue9
 t20:=Tryz.underlying20
 a20:=Tryz.isAgg20
 z20:=Tryz.sizeOf20
 v20:=Tryz.zeroValue20
 t21:=Tryz.underlying21
 a21:=Tryz.isAgg21
 z21:=Tryz.sizeOf21
 v21:=Tryz.zeroValue21
 t37:=Tryz.underlying49
 a37:=Tryz.isAgg49
 z37:=Tryz.sizeOf49
 v37:=Tryz.zeroValue49
 t46:=Tryz.underlying162
 a46:=Tryz.isAgg162
 z46:=Tryz.sizeOf162
 v46:=Tryz.zeroValue162
 t51:=Tryz.underlying204
 a51:=Tryz.isAgg204
 z51:=Tryz.sizeOf204
 v51:=Tryz.zeroValue204
 t53:=Tryz.underlying159
 a53:=Tryz.isAgg159
 z53:=Tryz.sizeOf159
 v53:=Tryz.zeroValue159
 t75:=Tryz.underlying104
 a75:=Tryz.isAgg104
 z75:=Tryz.sizeOf104
 v75:=Tryz.zeroValue104
 t85:=Tryz.underlying105
 a85:=Tryz.isAgg105
 z85:=Tryz.sizeOf105
 v85:=Tryz.zeroValue105
 t127:=Tryz.underlying97
 a127:=Tryz.isAgg97
 z127:=Tryz.sizeOf97
 v127:=Tryz.zeroValue97
 t143:=Tryz.underlying212
 a143:=Tryz.isAgg212
 z143:=Tryz.sizeOf212
 v143:=Tryz.zeroValue212
 t145:=Tryz.underlying214
 a145:=Tryz.isAgg214
 z145:=Tryz.sizeOf214
 v145:=Tryz.zeroValue214
 t167:=Tryz.underlying158
 a167:=Tryz.isAgg158
 z167:=Tryz.sizeOf158
 v167:=Tryz.zeroValue158
 t168:=Tryz.underlying163
 a168:=Tryz.isAgg163
 z168:=Tryz.sizeOf163
 v168:=Tryz.zeroValue163
 t171:=Tryz.underlying178
 a171:=Tryz.isAgg178
 z171:=Tryz.sizeOf178
 v171:=Tryz.zeroValue178
 t173:=Tryz.underlying181
 a173:=Tryz.isAgg181
 z173:=Tryz.sizeOf181
 v173:=Tryz.zeroValue181
 t175:=Tryz.underlying160
 a175:=Tryz.isAgg160
 z175:=Tryz.sizeOf160
 v175:=Tryz.zeroValue160
 t210:=Tryz.underlying188
 a210:=Tryz.isAgg188
 z210:=Tryz.sizeOf188
 v210:=Tryz.zeroValue188
 t212:=Tryz.underlying203
 a212:=Tryz.isAgg203
 z212:=Tryz.sizeOf203
 v212:=Tryz.zeroValue203
 t213:=Tryz.underlying205
 a213:=Tryz.isAgg205
 z213:=Tryz.sizeOf205
 t232:=Tryz.underlying226
 a232:=Tryz.isAgg226
 z232:=Tryz.sizeOf226
 v232:=Tryz.zeroValue226
 t233:=Tryz.underlying227
 a233:=Tryz.isAgg227
 z233:=Tryz.sizeOf227
 v233:=Tryz.zeroValue227
 g15:=by kernel_rfl
 g16:=by kernel_rfl
 g17:=by kernel_rfl
 g18:=by kernel_rfl
 g19:=by kernel_rfl
 t80:=Tryz.underlying63
 a80:=Tryz.isAgg63
 z80:=Tryz.sizeOf63
 v80:=Tryz.zeroValue63
 i0:=by kernel_rfl
 i2:=by kernel_rfl
 i3:=by kernel_rfl
 i4:=by kernel_rfl
 i5:=by kernel_rfl
 i9:=by kernel_rfl
 i20:=by kernel_rfl
 i21:=by kernel_rfl
 i37:=by kernel_rfl
 i46:=by kernel_rfl
 i51:=by kernel_rfl
 i53:=by kernel_rfl
 i75:=by kernel_rfl
 i80:=by kernel_rfl
 i85:=by kernel_rfl
 i127:=by kernel_rfl
 i143:=by kernel_rfl
 i145:=by kernel_rfl
 i167:=by kernel_rfl
 i168:=by kernel_rfl
 i171:=by kernel_rfl
 i173:=by kernel_rfl
 i175:=by kernel_rfl
 i210:=by kernel_rfl
 i212:=by kernel_rfl
 i232:=by kernel_rfl
 i233:=by kernel_rfl
 m15:=by kernel_rfl
 m16:=by kernel_rfl
 m17:=by kernel_rfl
 m18:=by kernel_rfl
 m19:=by kernel_rfl
 c0:=by kernel_rfl
 c2:=by kernel_rfl
 c3:=by kernel_rfl
 c4:=by kernel_rfl
 c5:=by kernel_rfl
 c9:=by kernel_rfl
 c20:=by kernel_rfl
 c21:=by kernel_rfl
 c37:=by kernel_rfl
 c46:=by kernel_rfl
 c51:=by kernel_rfl
 c53:=by kernel_rfl
 c75:=by kernel_rfl
 c80:=by kernel_rfl
 c85:=by kernel_rfl
 c127:=by kernel_rfl
 c143:=by kernel_rfl
 c145:=by kernel_rfl
 c167:=by kernel_rfl
 c168:=by kernel_rfl
 c171:=by kernel_rfl
 c173:=by kernel_rfl
 c175:=by kernel_rfl
 c210:=by kernel_rfl
 c212:=by kernel_rfl
 c213:=by kernel_rfl
 c232:=by kernel_rfl
 c233:=by kernel_rfl }
open Go.RowKit in
theorem Tryz.strconv_ParseInt_10_at64_ok (s:ByteArray) (a:s.size≤9223372036854775806) (v:Int) (h:Lib.parseIntB 64 s.data.toList=.ok v) (w:World) :
  Calls Tryz.prog 35 #[.string s,.int .i64 10,.int .i64 64] w fun e w'=>e=.returned (.tuple #[.int .i64 v,.nilIface])∧(w'=w∨∃ t,w'=Lib.bytesWorld w 5 t):=Any.strconv_ParseInt_10_at64_ok Tryz.jF s a v h w
def Tryz.iD:Go.Shelf.Ren:=⟨fun | 144=>68 | 143=>89 | 219=>109 | 217=>121 | 225=>122 | 224=>123 | 267=>124 | 266=>132 | 314=>133 | n=>n,fun | 9=>9 | 4=>4 | 3=>3 | 5=>5 | 46=>162 | 146=>224 | 51=>204 | n=>n,fun | 1=>3 | n=>n⟩
theorem Tryz.YF:Go.Proofs.Lays.n144 Tryz.prog Tryz.iD:={
 mixed:=by kernel_rfl
 f143:=Tryz.func89.trans (congrArg some (by kernel_rfl))
 f144:=Tryz.func68.trans (congrArg some (by kernel_rfl))
 f217:=Tryz.func121.trans (congrArg some (by kernel_rfl))
 f219:=Tryz.func109.trans (congrArg some (by kernel_rfl))
 f224:=Tryz.func123.trans (congrArg some (by kernel_rfl))
 f225:=Tryz.func122.trans (congrArg some (by kernel_rfl))
 f266:=Tryz.func132.trans (congrArg some (by kernel_rfl))
 f267:=Tryz.func124.trans (congrArg some (by kernel_rfl))
 f314:=Tryz.func133.trans (congrArg some (by kernel_rfl))
 t3:=Tryz.underlying3
 a3:=Tryz.isAgg3
 z3:=Tryz.sizeOf3
 v3:=Tryz.zeroValue3
 t4:=Tryz.underlying4
 a4:=Tryz.isAgg4
 z4:=Tryz.sizeOf4
 v4:=Tryz.zeroValue4
 t5:=Tryz.underlying5
 a5:=Tryz.isAgg5
 z5:=Tryz.sizeOf5
 v5:=Tryz.zeroValue5
 t9:=Tryz.underlying9
 a9:=Tryz.isAgg9
 z9:=Tryz.sizeOf9
 v9:=Tryz.zeroValue9
 t46:=Tryz.underlying162
 a46:=Tryz.isAgg162
 z46:=Tryz.sizeOf162
 v46:=Tryz.zeroValue162
 t51:=Tryz.underlying204
 a51:=Tryz.isAgg204
 z51:=Tryz.sizeOf204
 v51:=Tryz.zeroValue204
 t146:=Tryz.underlying224
 a146:=Tryz.isAgg224
 z146:=Tryz.sizeOf224
 v146:=Tryz.zeroValue224
 g1:=by kernel_rfl }
open Go.RowKit Go.Lib in
theorem Tryz.strings_Contains (s sub:ByteArray) (m:Int) (w:World) (a:s.size<4294967281) (hm:w.cell? ⟨3,0,none⟩=some (.int .i64 m)) :
  Calls Tryz.prog 68 #[.string s,.string sub] w fun e w'=>e=.returned (.bool (Lib.contains s.data.toList sub.data.toList))∧w'=w:=Any.strings_Contains Tryz.YF s sub m w a hm
def Tryz.jD:Go.Shelf.Ren:=⟨fun | 110=>66 | 109=>85 | n=>n,fun | 31=>131 | 9=>9 | 4=>4 | 3=>3 | 0=>0 | n=>n,fun | n=>n⟩
theorem Tryz.kB:Go.Proofs.Lays.n110 Tryz.prog Tryz.jD:={
 mixed:=by kernel_rfl
 f109:=Tryz.func85.trans (congrArg some (by kernel_rfl))
 f110:=Tryz.func66.trans (congrArg some (by kernel_rfl))
 t0:=Tryz.underlying0
 a0:=Tryz.isAgg0
 z0:=Tryz.sizeOf0
 v0:=Tryz.zeroValue0
 t3:=Tryz.underlying3
 a3:=Tryz.isAgg3
 z3:=Tryz.sizeOf3
 v3:=Tryz.zeroValue3
 t4:=Tryz.underlying4
 a4:=Tryz.isAgg4
 z4:=Tryz.sizeOf4
 v4:=Tryz.zeroValue4
 t9:=Tryz.underlying9
 a9:=Tryz.isAgg9
 z9:=Tryz.sizeOf9
 v9:=Tryz.zeroValue9
 t31:=Tryz.underlying131
 a31:=Tryz.isAgg131
 z31:=Tryz.sizeOf131
 v31:=Tryz.zeroValue131 }
open Go.Lib in
theorem Tryz.slices_Contains_string (b off n c:Nat) (a:List ByteArray) (x:ByteArray) (w:World) (d:n≤a.length) (f:n≤9223372036854775807) (g:∀ j,j<a.length→w.cell? ⟨b,off+j,none⟩=some (.string (a.getD j ByteArray.empty))) :
  Calls Tryz.prog 66 #[.slice (some ⟨b,off,none⟩) n c,.string x] w fun e w'=>e=.returned (.bool (Lib.containsS (a.take n) x))∧w'=w:=Any.slices_Contains_string Tryz.kB b off n c a x w d f g
open Go.Lib in
theorem Tryz.slices_Contains_string_empty (a:Option Addr) (c:Nat) (x:ByteArray) (w:World) :
  Calls Tryz.prog 66 #[.slice a 0 c,.string x] w fun e w'=>e=.returned (.bool false)∧w'=w:=Any.slices_Contains_string_empty Tryz.kB a c x w
end Go.Proofs
namespace Go.Proofs.YthoigniombcphaaGreatDoor
open Go.bc Go.Dc Go.Y Tryz
def Fc : M := fun w => (∃ m, w.cell? ⟨3, 0, none⟩ = some (.int .i64 m)) ∧ Lib.TabIs prog w "internal/strconv.uint64pow10" .u64 Lib.pow10Tab
theorem XG {I:M} {J w:World} {O:List Wb} {l:List UInt8} {r:Int} (g:Mo l=some r) (b:ka I J w O) :
  Sb prog 35 [S l,.int .i64 10,.int .i64 64] w (fun v w'=>v=.tuple ⟨[.int .i64 r,.nilIface]⟩∧ka I J w' O):=by
 unfold Mo at g
 split at g
 ·rename_i qa
  cases a:Lib.parseIntB 64 l with
  | ok v =>
   rw [a] at g
   obtain rfl:=Option.some.inj g
   refine ⟨(strconv_ParseInt_10_at64_ok ⟨⟨l⟩⟩ qa v a w).mono fun e w' he=>?_⟩
   obtain ⟨rfl,hw⟩:=he
   refine ⟨rfl,?_⟩
   rcases hw with rfl | ⟨t,rfl⟩
   ·exact b
   ·have h:=Lib.bytesWorld_below w 5 t
    exact b.grow ⟨h.os,h.tape,h.output,h.size,fun k c _=>h.block k c⟩
  | _=>rw [a] at g; cases g
 ·cases g
theorem ZF {I:M} {J w:World} {O:List Wb} {l sub:List UInt8} {b:Bool} (d:ga Fc I) (g:Ds l sub=some b) (c:ka I J w O) :
  Sb prog 68 [S l,S sub] w (fun v w'=>v=.bool b∧ka I J w' O):=by
 unfold Ds at g
 split at g
 ·rename_i qa
  obtain rfl:=Option.some.inj g
  obtain ⟨⟨m,hm⟩,-⟩:=d w c.a
  refine ⟨(strings_Contains ⟨⟨l⟩⟩ ⟨⟨sub⟩⟩ m w qa hm).mono fun e w' he=>?_⟩
  obtain ⟨rfl,rfl⟩:=he
  exact ⟨rfl,c⟩
 ·cases g
theorem Bz (w:World) (n:Nat) (os:Array Obj):Grow w (Go.Sort.grow (w.drewN n) os):=⟨rfl,rfl,rfl,by simp [Go.Sort.grow],fun k a _=>by
 simp only [Go.Sort.grow,World.heap_drewN]
 exact Array.getElem?_append_left a⟩
theorem gC {I:M} {J w:World} {O:List Wb} {n:Int} {r:List UInt8} (c:ga Fc I) (g:Ho n=some r) (b:ka I J w O) :
  Sb prog 97 [.int .i64 n,.int .i64 10] w (fun v w'=>v=S r∧ka I J w' O):=by
 unfold Ho at g
 split at g
 ·rename_i h
  obtain rfl:=Option.some.inj g
  obtain ⟨-,d⟩:=c w b.a
  refine ⟨(strconv_FormatInt_10 n h.1 h.2 w d).mono fun e w' he=>?_⟩
  obtain ⟨rfl,k,os,rfl⟩:=he
  exact ⟨rfl,b.grow (Bz w k os)⟩
 ·cases g
theorem YG {I:M} {J w:World} {O:List Wb} {n:Int} {r:List UInt8} (c:ga Fc I) (g:Ho n=some r) (b:ka I J w O) :
  Sb prog 28 [.int .i64 n] w (fun v w'=>v=S r∧ka I J w' O):=by
 unfold Ho at g
 split at g
 ·rename_i h
  obtain rfl:=Option.some.inj g
  obtain ⟨-,d⟩:=c w b.a
  refine ⟨(strconv_Itoa n h.1 h.2 w d).mono fun e w' he=>?_⟩
  obtain ⟨rfl,k,os,rfl⟩:=he
  exact ⟨rfl,b.grow (Bz w k os)⟩
 ·cases g
end Go.Proofs.YthoigniombcphaaGreatDoor
namespace Go.Proofs.YthoigniombcphaaGreatDoor
open Go.bc Go.Dc Go.Y Go.RowKit Tryz
section
variable {μ I:M} {J w:World} {O rs:List Wb}
def hy (w:World) (v:Value) (vs:List Value):Prop:=(vs=[]∧∃ a c,v=.slice a 0 c)∨∃ b o c,v=.slice (some ⟨b,o,none⟩) vs.length c∧vs.length≤9223372036854775807∧∀ j y,vs[j]?=some y→w.cell? ⟨b,o+j,none⟩=some y
theorem FA {α:Type} [cb α] {f:α→Value} (a:∀ (μ:M) (l:List Value) (x:α),cb.cs μ l x→l=[f x]):∀ {l:List α} {cells:List Value},pa μ cells l→cells=l.map f
 | [],cells,h=>by rw [pa] at h; simp [h]
 | x::l,cells,h=>by
  rw [pa] at h
  obtain ⟨cs,t,rfl,b,c⟩:=h
  rw [a _ _ _ b,FA a c]; rfl
theorem zE {α:Type} [cb α] {f:α→Value} (c:∀ (μ:M) (l:List Value) (x:α),cb.cs μ l x→l=[f x]) {v:Value} {T:TypeId} {l:List α} {cells:List Value} (h:Row w v T 1 l.length cells) (d:pa μ cells l):hy w v (l.map f):=by
 have e:=FA c d
 subst e
 rcases h.2 with ⟨rfl,b⟩ | ⟨g,o,cap,cur,rfl,i,k,b,n,m⟩
 ·exact .inl ⟨by rw [List.length_eq_zero_iff.1 b]; rfl,none,0,rfl⟩
 ·refine .inr ⟨g,o,cap,by simp,by simp; exact Nat.le_trans k (Nat.le_trans b (by decide)),fun j y a=>?_⟩
  rw [cell_of_row w g (o+j) cur T (0,0) i]
  rw [← m,List.getElem?_take] at a
  split at a
  ·rw [List.getElem?_drop] at a; simpa using a
  ·cases a
theorem GA {α:Type} [cb α] {f:α→Value} (g:∀ (μ:M) (l:List Value) (x:α),cb.cs μ l x→l=[f x]) (i:cb.sz α=1) {a:Option Addr} {c:Nat} {l:List α} (h:Ka μ a c l) (hw:μ w):hy w (.slice a l.length c) (l.map f):=by
 rcases h.el with rfl | ⟨b,o,rfl,Ul,k⟩
 ·exact .inl ⟨rfl,a,c,rfl⟩
 ·refine .inr ⟨b,o,c,by simp,by simp; exact Ka.len h,fun j y d=>?_⟩
  simp only [List.getElem?_map,Option.map_eq_some_iff] at d
  obtain ⟨x,m,rfl⟩:=d
  obtain ⟨e,n⟩:=k j x m
  rw [g _ _ _ n,i] at e
  have:=e w hw 0 _ rfl
  simpa using this
theorem By (μ:M) (l:List Value) (x:List UInt8) (h:cb.cs μ l x):l=[S x]:=h
theorem Tw {v:Value} {l:List (List UInt8)} {x:List UInt8} (h:hy w v (l.map S)):Sb prog 66 [v,S x] w (fun v w'=>v=.bool (l.contains x)∧w'=w):=by
 rcases h with ⟨f,a,c,rfl⟩ | ⟨b,o,c,rfl,qa,g⟩
 ·obtain rfl:l=[]:=List.map_eq_nil_iff.1 f
  exact ⟨(slices_Contains_string_empty a c ⟨⟨x⟩⟩ w).mono fun e w' he=>by
   obtain ⟨rfl,rfl⟩:=he
   exact ⟨rfl,rfl⟩⟩
 ·refine ⟨(slices_Contains_string b o (l.map S).length c (l.map fun y=>⟨⟨y⟩⟩) ⟨⟨x⟩⟩ w (by simp) qa ?_).mono fun e w' he=>?_⟩
  ·intro j i
   have d:j<l.length:=by simpa using i
   rw [g j (S l[j]) (by simp [d])]
   simp [List.getElem?_eq_getElem d,S]
  ·obtain ⟨rfl,rfl⟩:=he
   refine ⟨?_,rfl⟩
   congr 1
   rw [List.take_of_length_le (by simp),Bool.eq_iff_iff,Lib.containsS_iff,List.contains_iff_mem]
   constructor
   ·intro hm
    obtain ⟨y,m,e⟩:=List.mem_map.1 hm
    have k:y=x:=congrArg (fun b:ByteArray=>b.data.toList) e
    rwa [← k]
   ·exact fun hm=>List.mem_map.2 ⟨x,hm,rfl⟩
end
end Go.Proofs.YthoigniombcphaaGreatDoor
set_option maxRecDepth 100000
namespace Go.Proofs.YthoigniombcphaaGreatDoor
open Go.bc Go.Dc Go.RowKit
section
variable {P:Program} {Q:Exit→Act→World→Prop} {K:List Value→List Deferred→World→Prop} {fr Ca:List Value} {ds:List Deferred} {w:World} {dst:Option Tmp} {ty:TypeId} {pos:String} {after:Array Edge} {g:Option (Nat×Bool)}
theorem ZG {x y:Operand} {t ld b:TypeId} {j:TypeInfo} {a:Addr} (c:P.underlying t=some (.pointer b)) (d:P.info? b=some j)
  (e:wb fr x (.pointer (some a))) (f:wb fr y (.pointer (some a))) (ya:hf fr dst (.bool false) Ca) (h:K Ca ds w):Zd P (Oper.mk dst (.binOp .neq t x y ld) ty pos after g) fr ds w K Q:=by
 refine ig (w':=w) ?_ ya h
 have sa:=e ds
 have i:=f ds
 have k:=Lib.run_neq_ptr_same (P:=P) w a c d
 simp [execOp,sa,i,eqGuard,k]
theorem aH {x:Operand} {t ld b:TypeId} {a:Addr} (c:P.underlying t=some (.pointer b))
  (e:wb fr x (.pointer (some a))) (ya:hf fr dst (.bool false) Ca) (h:K Ca ds w):Zd P (Oper.mk dst (.binOp .eql t x (.const (.pointer none)) ld) ty pos after g) fr ds w K Q:=by
 refine ig (w':=w) ?_ ya h
 have sa:=e ds
 have f:(F fr ds).eval (.const (.pointer none))=.pointer none:=rfl
 have i:∀ d:Nat,(Op.equalIn (d+1) t (.pointer (some a)) (.pointer none)).run P w=.ok false w:=fun d=>by
  simp [Op.equalIn,run_underlying c]
 have j:(Op.equalIn Op.maxDepth t (.pointer (some a)) (.pointer none)).run P w=.ok false w:=i 9999
 simp [execOp,sa,f,eqGuard,binOp,Op.equal,j]
theorem bH {x:Operand} {src b t e:TypeId} {j:TypeInfo} {cells:Nat} {a:Addr} (c:P.underlying src=some (.pointer t)) (hu:P.underlying b=some .unsafePointer) (d:P.info? t=some j) (f:j.size≠0)
  (i:w.shape? a.block=some (e,cells)) (k:a.off<cells) (l:wb fr x (.pointer (some a))) (ya:hf fr dst (.pointer (some a)) Ca) (h:K Ca ds w):Zd P (Oper.mk dst (.convert src b x) ty pos after g) fr ds w K Q:=by
 refine ig (w':=w) ?_ ya h
 have sa:=l ds
 have m:=Lib.run_to_unsafe (P:=P) w a c hu d f i k
 simp [execOp,sa,m]
theorem cH {x:Operand} {src b u e:TypeId} {j:TypeInfo} {cells:Nat} {a:Addr} (c:P.underlying src=some .unsafePointer) (hu:P.underlying b=some (.pointer u)) (d:P.info? u=some j)
  (f:w.shape? a.block=some (e,cells)) (i:liesAt P P.depth e (cells / P.cellsOf e) a.off u 1=true) (k:wb fr x (.pointer (some a))) (ya:hf fr dst (.pointer (some a)) Ca) (h:K Ca ds w):Zd P (Oper.mk dst (.convert src b x) ty pos after g) fr ds w K Q:=by
 refine ig (w':=w) ?_ ya h
 have sa:=k ds
 have l:=Lib.run_from_unsafe (P:=P) w a c hu d f i
 simp [execOp,sa,l]
theorem aG {f x : Operand} {k : FuncId} {fn : Func} {v : Value} {tys : Array TypeId} (b : P.funcs[k]? = some fn) (c : (fn.name == "runtime.NumGoroutine") = false) (d : fn.body.isNone = true) (e : Extern.findNext fn = none) (he : Extern.find fn = some Extern.AbiNoEscape.same)
  (i:wb fr f (.func (.func k) #[] #[])) (j:wb fr x v) (ya:hf fr dst v Ca) (h:K Ca ds w):Zd P (Oper.mk dst (.call { callee:=.value f,args:=⟨[x]⟩,argTypes:=tys }) ty pos after g) fr ds w K Q:=by
 refine ig (w':=w) ?_ ya h
 have sa:=i ds
 have l:=j ds
 have a:=run_callFunc_extern b c d e he #[v] w
 rw [Lib.run_noEscape] at a
 simp [execOp,resolve,invoke,Deferred.ofValue,sa,l,a,Result.andThen]
end
section
variable {I:M} {J w:World} {O:List Wb}
theorem dI:∃ j,Tryz.prog.info? 51=some j∧j.size≠0:=by
 have h:(Tryz.prog.info? 51).map (·.size)=some 2:=by kernel_rfl
 obtain ⟨j,a,b⟩:=Option.map_eq_some_iff.1 h
 exact ⟨j,a,by rw [b]; decide⟩
theorem eI:liesAt Tryz.prog Tryz.prog.depth 53 (2 / Tryz.prog.cellsOf 53) 0 51 1=true:=by kernel_rfl
theorem HA {b:Nat} {d bv:Value} (f:Bf I b d) (a:ka I J w (.ba b 53 [d,bv]::O)) :
  Sb Tryz.prog 71 [.pointer (some ⟨b,0,none⟩)] w (fun v w'=>v=.tuple ⟨[]⟩∧ka I J w' (.ba b 53 [.pointer (some ⟨b,0,none⟩),bv]::O)):=by
 obtain ⟨j,c,g⟩:=dI
 refine enter Tryz.func71 rfl (frm:=[_,_,_,_,_,_,_,_,_,_,_,_,_,_,_,_,_,_,_,_]) rfl ?_
 refine db ?_
 refine eb ?_
 refine wl (Ut (aa d0) (ma Ib) ?_)
 refine wl (Ox (aa d2) (ma ec) ?_)
 refine wl (wy gy (aa d3) rfl (ma hd) ?_)
 refine wl (de Bw (aa d4) ((a.ba d0).cell d0) (ma cd) ?_)
 rcases f with rfl | rfl
 ·refine wl (xE Tryz.underlying48 (aa d5) (ma ad) ?_)
  refine La ?_
  refine ra ?_
  refine Bm (aa d6) ?_
  refine eb ?_
  refine wl (Ut (aa d0) (ma sd) ?_)
  refine wl (Ut (aa d0) (ma Yd) ?_)
  have e:w.shape? b=some (53,2):=by
   have h:w.heap[b]?=some (.cells ⟨[.pointer none,bv]⟩ 53 (0,0)):=a.get d0
   simp [World.shape?,h]
  refine wl (bH Tryz.underlying48 Tryz.underlying176 c g e (Nat.zero_lt_succ 1) (aa d8) (ma Ed) ?_)
  refine wl (aG Tryz.func91 (by kernel_rfl) (by kernel_rfl) (by kernel_rfl) (by kernel_rfl) (fun _=>rfl) (aa d9) (ma (Jb Ga)) ?_)
  refine wl (cH Tryz.underlying176 Tryz.underlying48 c e eI (aa (wa d0)) (ma (Jb kb)) ?_)
  refine wl (Ox (aa d7) (ma (Jb Ib)) ?_)
  refine wl (wy gy (aa (wa d2)) rfl (ma (Jb ec)) ?_)
  refine wl (Je Bw (aa (wa d3)) (aa (wa d1)) rfl a d0 Ga rfl Ga Ma ?_)
  clear a; intro i a
  refine La ?_
  refine Li rfl ?_
  exact ⟨rfl,a⟩
 ·refine wl (aH Tryz.underlying48 (aa d5) (ma ad) ?_)
  refine La ?_
  refine ra ?_
  refine Cp (aa d6) ?_
  refine db ?_
  refine eb ?_
  refine wl (Ut (aa d0) (ma (Jb hd)) ?_)
  refine wl (Ox (aa (wa d4)) (ma (Jb cd)) ?_)
  refine wl (wy gy (aa (wa d5)) rfl (ma (Jb ad)) ?_)
  refine wl (de Bw (aa (wa d6)) ((a.ba d0).cell d0) (ma (Jb sd)) ?_)
  refine wl (Ut (aa d0) (ma (Jb Yd)) ?_)
  refine wl (ZG Tryz.underlying48 c (aa (wa d7)) (aa (wa d8)) (ma (Jb Ed)) ?_)
  refine La ?_
  refine ra ?_
  refine Cp (aa (wa d9)) ?_
  refine Va ?_
  refine Li rfl ?_
  exact ⟨rfl,a⟩
theorem AE {b:Nat} {d bv:Value} {l:List UInt8} {cs:List Value} (hm:pa I cs l) (c:ka I J w (.ba b 53 [d,bv]::.row bv 5 1 l.length cs::O)) :
  Sb Tryz.prog 13 [.pointer (some ⟨b,0,none⟩)] w (fun v w'=>∃ (na:M),v=S l∧ga I na∧ka na J w' O):=by
 obtain ⟨a,cap,rfl⟩:=Row.shape (c.get d1)
 refine enter Tryz.func13 rfl (frm:=[_,_,_,_,_,_,_,_,_,_,_,_,_,_]) rfl ?_
 refine db ?_
 refine eb ?_
 refine wl (tA Ba (ma Ib) ?_)
 refine La ?_
 refine ra ?_
 refine db ?_
 refine aC (by kernel_rfl) rfl fun o e f g j=>?_
 replace c:=c.drew e f g j
 refine Pd ?_
 refine Fo (i:=0) [0,1,2,3,4,10,11] (mh fun _ _ _ h=>h.2) rfl rfl rfl (ks (aa d0)) ec ?_
 refine Fo (i:=1) [1,2,3,4,10,11] (mh fun _ _ _ h=>h.2) rfl rfl rfl (It (aa d3)) hd ?_
 refine Fo (i:=2) [2,3,4,10,11] (mh fun _ _ _ h=>h.2) rfl rfl rfl (tu PB (aa d4) rfl) cd ?_
 refine Fo (i:=5) [5,6,7,8,9,10,11] (mh fun _ _ _ h=>h.2) rfl rfl rfl (ks (aa d0)) Yd ?_
 refine Fo (i:=6) [6,7,8,9,10,11] (mh fun _ _ _ h=>h.2) rfl rfl rfl (It (aa d8)) Ed ?_
 refine Fo (i:=7) [7,8,9,10,11] (mh fun _ _ _ h=>h.2) rfl rfl rfl (tu PB (aa d9) rfl) (Jb Ga) ?_
 refine qy (i:=3) [3,4,10,11] (mh fun _ _ _ h=>h.2) rfl rfl rfl (jb Js (aa d5) ((c.ba d0).cell d1)) ad ?_
 refine qy (i:=8) [8,9,10,11] (mh fun _ _ _ h=>h.2) rfl rfl rfl (jb Js (aa (wa d0)) ((c.ba d0).cell d1)) (Jb kb) ?_
 refine Fo (i:=9) [9,10,11] (mh fun _ _ _ h=>h.2) rfl rfl rfl (Qd Tryz.underlying49 (aa (wa d1))) (Jb Ib) ?_
 refine Kb rfl rfl rfl rfl (Gb rfl) (SH Tryz.underlying97 rfl (aa d6) c d1 ?_)
 clear c; intro q p k c; refine pu (ma sd) ?_
 refine ⟨(Oa.s (jb Js (aa (wa d0)) ((c.ba d0).cell d1)) Oa.z),?_⟩
 refine Kb rfl rfl rfl rfl (Gb rfl) (FG k Tryz.underlying97 (by kernel_rfl) rfl (aa d7) (aa (wa d2)) c d1 hm ?_)
 clear c; intro t r' m n c; cases (show _=m from n); refine pu (ma (Jb ec)) ?_
 refine ⟨Oa.z,?_⟩
 refine Fo (i:=11) [11] (mh fun _ _ _ h=>h.2) rfl rfl rfl (wx (aa (wa d3))) Ib ?_
 refine Hd ?_
 refine ra ?_
 refine Ra ?_
 refine Ob rfl d2 ?_
 exact ⟨_,rfl,ga.r,(c.drop ia.z).drop ia.z⟩
end
end Go.Proofs.YthoigniombcphaaGreatDoor
