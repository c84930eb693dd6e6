/- Texts of Fl. -/
import Derived.Test.YteiemedhecjgiaaCXt
import Derived.Test.YteiemedhecjgiaaProg
import Derived.KernelRfl
import Derived.Shelf.Strings.Search1
import Derived.Shelf.Strings.Search2
import Derived.Shelf.Strings.Search3
import Derived.Shelf.LaysM
import Derived.Shelf.Strings.Shaped
import Derived.Shelf.Slices.Turned
import Derived.Ground.Names2Prog
import Derived.Shelf.Slices.Delete
import Derived.Shelf.Slices.Cells
import Derived.Shelf.Slices.Empties
import Derived.Test.YteiemedhecjgiaaCMd
import Derived.Test.YteiemedhecjgiaaCXu
import Derived.Lib.SlicesS
set_option linter.unusedSimpArgs false
set_option linter.unusedVariables false
set_option linter.unusedSectionVars false
namespace Go.Proofs.Yteiemedhecjgiaa
open Go.pc Go.nd Try
instance nL:kd prog 6:=Hd func6
instance oL:kd prog 7:=Hd func7
instance pL:kd prog 8:=Hd func8
instance WJ:kd prog 14:=Hd func14
instance XJ:kd prog 15:=Hd func15
instance XG:kd prog 16:=Hd func16
instance YJ:kd prog 17:=Hd func17
instance YG:kd prog 18:=Hd func18
instance Jy:kd prog 19:=Hd func19
instance ZJ:kd prog 20:=Hd func20
instance aK:kd prog 21:=Hd func21
instance bK:kd prog 22:=Hd func22
instance cK:kd prog 23:=Hd func23
instance Kl:kd prog 24:=Hd func24
instance Pt:kd prog 32:=Hd func32
instance dK:kd prog 33:=Hd func33
instance eK:kd prog 34:=Hd func34
instance ZG:kd prog 35:=Hd func35
instance fK:kd prog 36:=Hd func36
instance aH:kd prog 37:=Hd func37
instance bH:kd prog 38:=Hd func38
instance gK:kd prog 39:=Hd func39
instance hK:kd prog 41:=Hd func41
instance sC:kd prog 42:=Hd func42
instance oq:kd prog 43:=Hd func43
instance iK:kd prog 44:=Hd func44
instance jK:kd prog 45:=Hd func45
instance Ky:kd prog 46:=Hd func46
instance cH:kd prog 48:=Hd func48
instance kK:kd prog 49:=Hd func49
instance Kw:kd prog 50:=Hd func50
instance Lw:kd prog 51:=Hd func51
instance dH:kd prog 52:=Hd func52
instance lK:kd prog 53:=Hd func53
instance Qt:kd prog 54:=Hd func54
instance mK:kd prog 55:=Hd func55
instance nK:kd prog 56:=Hd func56
instance Tu:kd prog 57:=Hd func57
instance Mw:kd prog 58:=Hd func58
instance oK:kd prog 59:=Hd func59
instance pK:kd prog 60:=Hd func60
instance qK:kd prog 61:=Hd func61
instance pq:kd prog 62:=Hd func62
instance rK:kd prog 63:=Hd func63
instance sK:kd prog 64:=Hd func64
instance eH:kd prog 65:=Hd func65
instance tK:kd prog 66:=Hd func66
instance tC:kd prog 67:=Hd func67
instance fH:kd prog 68:=Hd func68
instance uK:kd prog 69:=Hd func69
instance Uu:kd prog 70:=Hd func70
instance vK:kd prog 71:=Hd func71
instance wK:kd prog 72:=Hd func72
instance xK:kd prog 73:=Hd func73
instance tr:kd prog 74:=Hd func74
instance yK:kd prog 75:=Hd func75
instance zK:kd prog 76:=Hd func76
instance Ly:kd prog 77:=Hd func77
instance uC:kd prog 78:=Hd func78
instance gH:kd prog 79:=Hd func79
instance AK:kd prog 80:=Hd func80
instance hH:kd prog 81:=Hd func81
instance BK:kd prog 82:=Hd func82
instance Nw:kd prog 83:=Hd func83
instance ur:kd prog 84:=Hd func84
instance vC:kd prog 85:=Hd func85
instance CK:kd prog 86:=Hd func86
instance My:kd prog 87:=Hd func87
instance DK:kd prog 88:=Hd func88
instance EK:kd prog 89:=Hd func89
instance FK:kd prog 90:=Hd func90
instance GK:kd prog 91:=Hd func91
instance iH:kd prog 92:=Hd func92
instance jH:kd prog 93:=Hd func93
instance kH:kd prog 94:=Hd func94
instance lH:kd prog 95:=Hd func95
instance mH:kd prog 96:=Hd func96
instance HK:kd prog 97:=Hd func97
instance IK:kd prog 98:=Hd func98
instance JK:kd prog 99:=Hd func99
instance po:kd prog 100:=Hd func100
instance Ay:kd prog 101:=Hd func101
instance nJ:kd prog 102:=Hd func102
instance dn:kd prog 103:=Hd func103
instance RB:kd prog 104:=Hd func104
instance oJ:kd prog 106:=Hd func106
instance SB:kd prog 107:=Hd func107
instance pJ:kd prog 108:=Hd func108
instance qJ:kd prog 109:=Hd func109
instance rJ:kd prog 110:=Hd func110
instance sJ:kd prog 112:=Hd func112
instance Tl:Dd prog 2 false [.int .i64 0] 1 8:=Mf (z:=.int .i64 0) underlying2
instance Sc:Dd prog 3 false [.int .i64 0] 1 8:=Mf (z:=.int .i64 0) underlying3
instance eJ:Dd prog 4 false [.bool false] 1 1:=Mf (z:=.bool false) underlying4
instance cd:Dd prog 9 false [S []] 1 16:=Mf (z:=S []) underlying9
instance jx:Dd prog 22 false [.slice none 0 0] 1 24:=Mf (z:=.slice none 0 0) underlying22
instance WC:Dd prog 24 false [.int .i64 0] 1 8:=Mf (z:=.int .i64 0) underlying24
instance Gc:Dd prog 26 true [.int .i64 0,.int .i64 0] 2 16:=Mf (z:=.agg #[.int .i64 0,.int .i64 0]) underlying26
instance Bo:Dd prog 31 true [S [],S [],S []] 3 48:=Mf (z:=.agg #[S [],S [],S []]) underlying31
instance zi:Dd prog 38 false [.slice none 0 0] 1 24:=Mf (z:=.slice none 0 0) underlying38
instance tq:Dd prog 42 false [.slice none 0 0] 1 24:=Mf (z:=.slice none 0 0) underlying42
instance bk:Dd prog 43 false [.slice none 0 0] 1 24:=Mf (z:=.slice none 0 0) underlying43
instance Rh:Dd prog 45 true [.slice none 0 0,.slice none 0 0] 2 48:=Mf (z:=.agg #[.slice none 0 0,.slice none 0 0]) underlying45
instance kv:Dd prog 50 false [.pointer none] 1 8:=Mf (z:=.pointer none) underlying50
instance dc:Dd prog 55 true [.int .i64 0,S []] 2 24:=Mf (z:=.agg #[.int .i64 0,S []]) underlying55
instance bu:Dd prog 56 false [.slice none 0 0] 1 24:=Mf (z:=.slice none 0 0) underlying56
instance Jj:Dd prog 57 false [.slice none 0 0] 1 24:=Mf (z:=.slice none 0 0) underlying57
instance Rc:Dd prog 59 true [.int .i64 0,S [],.int .i64 0,S [],.int .i64 0,S [],.int .i64 0,.slice none 0 0,.slice none 0 0] 9 128:=Mf (z:=.agg #[.int .i64 0,S [],.int .i64 0,S [],.int .i64 0,S [],.int .i64 0,.slice none 0 0,.slice none 0 0]) underlying59
instance lv:Dd prog 61 true [.slice none 0 0,.slice none 0 0,.slice none 0 0] 3 72:=Mf (z:=.agg #[.slice none 0 0,.slice none 0 0,.slice none 0 0]) underlying61
instance Co:Dd prog 63 false [.pointer none] 1 8:=Mf (z:=.pointer none) underlying63
instance II:Dd prog 64 false [.pointer none] 1 8:=Mf (z:=.pointer none) underlying64
instance Ap:Dd prog 65 true [.slice none 0 0,.pointer none] 2 32:=Mf (z:=.agg #[.slice none 0 0,.pointer none]) underlying65
instance Kk:Dd prog 77 false [.pointer none] 1 8:=Mf (z:=.pointer none) underlying77
instance Li:Dd prog 78 false [.map none] 1 8:=Mf (z:=.map none) underlying78
instance Bp:Dd prog 79 false [.map none] 1 8:=Mf (z:=.map none) underlying79
instance JI:Dd prog 81 true [.map none,.map none,.map none] 3 24:=Mf (z:=.agg #[.map none,.map none,.map none]) underlying81
instance Eo:Dd prog 84 true [.int .i64 0,.int .i64 0] 2 16:=Mf (z:=.agg #[.int .i64 0,.int .i64 0]) underlying84
instance Bm:Dd prog 85 false [.slice none 0 0] 1 24:=Mf (z:=.slice none 0 0) underlying85
instance Rg:Dd prog 86 false [.slice none 0 0] 1 24:=Mf (z:=.slice none 0 0) underlying86
instance jg:Dd prog 88 true [.int .i64 0,.int .i64 0,.slice none 0 0,.int .i64 0,.int .i64 0,.slice none 0 0] 6 80:=Mf (z:=.agg #[.int .i64 0,.int .i64 0,.slice none 0 0,.int .i64 0,.int .i64 0,.slice none 0 0]) underlying88
instance af:Dd prog 93 true [.int .i64 0,.int .i64 0,.int .i64 0] 3 24:=Mf (z:=.agg #[.int .i64 0,.int .i64 0,.int .i64 0]) underlying93
instance KI:Dd prog 95 true [.slice none 0 0,.map none] 2 32:=Mf (z:=.agg #[.slice none 0 0,.map none]) underlying95
instance fz:Dd prog 97 false [.nilFunc] 1 8:=Mf (z:=.nilFunc) underlying97
instance bI:Dd prog 104 true [.int .i64 0] 1 8:=Mf (z:=.agg #[.int .i64 0]) underlying104
instance Zg:Dd prog 107 true [S [],.int .i64 0,S []] 3 40:=Mf (z:=.agg #[S [],.int .i64 0,S []]) underlying107
instance Vw:Dd prog 110 false [.slice none 0 0] 1 24:=Mf (z:=.slice none 0 0) underlying110
instance hl:Dd prog 113 true [S [],S []] 2 32:=Mf (z:=.agg #[S [],S []]) underlying113
instance hi:Dd prog 117 false [.slice none 0 0] 1 24:=Mf (z:=.slice none 0 0) underlying117
instance Yf:Dd prog 119 true [.int .i64 0,.int .i64 0,S [],.slice none 0 0] 4 56:=Mf (z:=.agg #[.int .i64 0,.int .i64 0,S [],.slice none 0 0]) underlying119
instance ji:Dd prog 121 true [.int .i64 0,S [],.int .i64 0,.int .i64 0,S [],.slice none 0 0,.slice none 0 0,.slice none 0 0] 8 128:=Mf (z:=.agg #[.int .i64 0,S [],.int .i64 0,.int .i64 0,S [],.slice none 0 0,.slice none 0 0,.slice none 0 0]) underlying121
instance yr:Dd prog 125 false [.slice none 0 0] 1 24:=Mf (z:=.slice none 0 0) underlying125
instance cI:Dd prog 127 true [.pointer none,.int .i64 0,.int .i64 0,.slice none 0 0,.int .i64 0,.int .i64 0,.slice none 0 0,.slice none 0 0] 8 112:=Mf (z:=.agg #[.pointer none,.int .i64 0,.int .i64 0,.slice none 0 0,.int .i64 0,.int .i64 0,.slice none 0 0,.slice none 0 0]) underlying127
instance dI:Dd prog 132 true [.slice none 0 0,.bool false,.int .i64 0,S [],.int .i64 0,S [],.int .i64 0,S [],.int .i64 0,.slice none 0 0,.slice none 0 0,.slice none 0 0,.slice none 0 0,.slice none 0 0] 14 232:=Mf (z:=.agg #[.slice none 0 0,.bool false,.int .i64 0,S [],.int .i64 0,S [],.int .i64 0,S [],.int .i64 0,.slice none 0 0,.slice none 0 0,.slice none 0 0,.slice none 0 0,.slice none 0 0]) underlying132
instance eI:Dd prog 137 true [.int .i64 0] 1 8:=Mf (z:=.agg #[.int .i64 0]) underlying137
instance qn:Dd prog 140 false [.pointer none] 1 8:=Mf (z:=.pointer none) underlying140
instance vo:Dd prog 141 false [.map none] 1 8:=Mf (z:=.map none) underlying141
instance zm:Dd prog 142 false [.slice none 0 0] 1 24:=Mf (z:=.slice none 0 0) underlying142
instance fI:Dd prog 144 true [.pointer none,.pointer none,.slice none 0 0] 3 40:=Mf (z:=.agg #[.pointer none,.pointer none,.slice none 0 0]) underlying144
instance JC:Dd prog 168 false [.nilFunc] 1 8:=Mf (z:=.nilFunc) underlying168
instance wo:Dd prog 169 false [.nilFunc] 1 8:=Mf (z:=.nilFunc) underlying169
theorem LI:prog.eqGuardType prog.depth 26=false:=by kernel_rfl
theorem XC:prog.eqGuardType prog.depth 55=false:=by kernel_rfl
theorem MI:prog.eqGuardType prog.depth 84=false:=by kernel_rfl
theorem NI:prog.eqGuardType prog.depth 93=false:=by kernel_rfl
theorem OI:prog.stoodInHeld 26=false:=by kernel_rfl
theorem YC:prog.stoodInHeld 55=false:=by kernel_rfl
theorem PI:prog.stoodInHeld 84=false:=by kernel_rfl
theorem QI:prog.stoodInHeld 93=false:=by kernel_rfl
instance tJ:Oe prog 104 0 0:=Xe underlying104 rfl rfl rfl Sc rfl
instance uJ:Oe prog 107 0 0:=Xe underlying107 rfl rfl rfl cd rfl
instance vJ:Oe prog 107 1 1:=Xe underlying107 rfl rfl rfl dc rfl
instance wJ:Oe prog 113 0 0:=Xe underlying113 rfl rfl rfl cd rfl
instance xJ:Oe prog 113 1 1:=Xe underlying113 rfl rfl rfl cd rfl
instance yJ:Oe prog 119 0 0:=Xe underlying119 rfl rfl rfl Sc rfl
instance zJ:Oe prog 119 1 1:=Xe underlying119 rfl rfl rfl Tl rfl
instance AJ:Oe prog 119 2 2:=Xe underlying119 rfl rfl rfl cd rfl
instance BJ:Oe prog 119 3 3:=Xe underlying119 rfl rfl rfl hi rfl
instance CJ:Oe prog 121 0 0:=Xe underlying121 rfl rfl rfl Sc rfl
instance DJ:Oe prog 121 1 1:=Xe underlying121 rfl rfl rfl cd rfl
instance EJ:Oe prog 121 2 2:=Xe underlying121 rfl rfl rfl Yf rfl
instance FJ:Oe prog 121 3 6:=Xe underlying121 rfl rfl rfl Jj rfl
instance GJ:Oe prog 121 4 7:=Xe underlying121 rfl rfl rfl Jj rfl
instance HJ:Oe prog 127 0 0:=Xe underlying127 rfl rfl rfl Kk rfl
instance IJ:Oe prog 127 1 1:=Xe underlying127 rfl rfl rfl jg rfl
instance JJ:Oe prog 127 2 7:=Xe underlying127 rfl rfl rfl yr rfl
instance KJ:Oe prog 132 0 0:=Xe underlying132 rfl rfl rfl jx rfl
instance LJ:Oe prog 132 1 1:=Xe underlying132 rfl rfl rfl eJ rfl
instance MJ:Oe prog 132 2 2:=Xe underlying132 rfl rfl rfl Rc rfl
instance NJ:Oe prog 132 3 11:=Xe underlying132 rfl rfl rfl Bm rfl
instance OJ:Oe prog 132 4 12:=Xe underlying132 rfl rfl rfl Vw rfl
instance PJ:Oe prog 132 5 13:=Xe underlying132 rfl rfl rfl Bm rfl
instance QJ:Oe prog 137 0 0:=Xe underlying137 rfl rfl rfl Sc rfl
instance RJ:Oe prog 144 0 0:=Xe underlying144 rfl rfl rfl kv rfl
instance SJ:Oe prog 144 1 1:=Xe underlying144 rfl rfl rfl Co rfl
instance TJ:Oe prog 144 2 2:=Xe underlying144 rfl rfl rfl zm rfl
instance KK:Oe prog 26 0 0:=Xe underlying26 rfl rfl rfl WC rfl
instance LK:Oe prog 31 1 1:=Xe underlying31 rfl rfl rfl cd rfl
instance MK:Oe prog 31 2 2:=Xe underlying31 rfl rfl rfl cd rfl
instance NK:Oe prog 45 0 0:=Xe underlying45 rfl rfl rfl tq rfl
instance OK:Oe prog 45 1 1:=Xe underlying45 rfl rfl rfl bk rfl
instance PK:Oe prog 55 0 0:=Xe underlying55 rfl rfl rfl Sc rfl
instance QK:Oe prog 55 1 1:=Xe underlying55 rfl rfl rfl cd rfl
instance nH:Oe prog 59 0 0:=Xe underlying59 rfl rfl rfl Sc rfl
instance oH:Oe prog 59 1 1:=Xe underlying59 rfl rfl rfl cd rfl
instance SK:Oe prog 59 2 2:=Xe underlying59 rfl rfl rfl dc rfl
instance TK:Oe prog 59 3 4:=Xe underlying59 rfl rfl rfl dc rfl
instance UK:Oe prog 59 4 6:=Xe underlying59 rfl rfl rfl Sc rfl
instance VK:Oe prog 59 5 7:=Xe underlying59 rfl rfl rfl bu rfl
instance pH:Oe prog 59 6 8:=Xe underlying59 rfl rfl rfl Jj rfl
instance WK:Oe prog 61 0 0:=Xe underlying61 rfl rfl rfl zi rfl
instance XK:Oe prog 61 1 1:=Xe underlying61 rfl rfl rfl zi rfl
instance YK:Oe prog 61 2 2:=Xe underlying61 rfl rfl rfl zi rfl
instance ZK:Oe prog 65 0 0:=Xe underlying65 rfl rfl rfl zi rfl
instance aL:Oe prog 65 1 1:=Xe underlying65 rfl rfl rfl II rfl
instance bL:Oe prog 81 0 0:=Xe underlying81 rfl rfl rfl Li rfl
instance cL:Oe prog 81 1 1:=Xe underlying81 rfl rfl rfl Li rfl
instance dL:Oe prog 81 2 2:=Xe underlying81 rfl rfl rfl Bp rfl
instance eL:Oe prog 88 0 0:=Xe underlying88 rfl rfl rfl Sc rfl
instance fL:Oe prog 88 1 1:=Xe underlying88 rfl rfl rfl Sc rfl
instance gL:Oe prog 88 2 2:=Xe underlying88 rfl rfl rfl Bm rfl
instance hL:Oe prog 88 3 3:=Xe underlying88 rfl rfl rfl Sc rfl
instance iL:Oe prog 88 4 4:=Xe underlying88 rfl rfl rfl Sc rfl
instance jL:Oe prog 88 5 5:=Xe underlying88 rfl rfl rfl Rg rfl
instance kL:Oe prog 93 0 0:=Xe underlying93 rfl rfl rfl Sc rfl
instance lL:Oe prog 93 1 1:=Xe underlying93 rfl rfl rfl Sc rfl
instance mL:Oe prog 95 1 1:=Xe underlying95 rfl rfl rfl Bp rfl
theorem gI:Si prog 104 #[(0,1)]:=vj underlying104 (fun _=>by kernel_rfl)
theorem Xy:Si prog 113 #[(0,1),(1,1)]:=vj underlying113 (fun _=>by kernel_rfl)
theorem hI:Si prog 119 #[(0,1),(1,1),(2,1),(3,1)]:=vj underlying119 (fun _=>by kernel_rfl)
theorem iI:Si prog 121 #[(0,1),(1,1),(2,4),(6,1),(7,1)]:=vj underlying121 (fun _=>by kernel_rfl)
theorem jI:Si prog 127 #[(0,1),(1,6),(7,1)]:=vj underlying127 (fun _=>by kernel_rfl)
theorem kI:Si prog 132 #[(0,1),(1,1),(2,9),(11,1),(12,1),(13,1)]:=vj underlying132 (fun _=>by kernel_rfl)
theorem lI:Si prog 137 #[(0,1)]:=vj underlying137 (fun _=>by kernel_rfl)
theorem mI:Si prog 144 #[(0,1),(1,1),(2,1)]:=vj underlying144 (fun _=>by kernel_rfl)
theorem di:Si prog 26 #[(0,1),(1,1)]:=vj underlying26 (fun _=>by kernel_rfl)
theorem ZC:Si prog 31 #[(0,1),(1,1),(2,1)]:=vj underlying31 (fun _=>by kernel_rfl)
theorem kx:Si prog 45 #[(0,1),(1,1)]:=vj underlying45 (fun _=>by kernel_rfl)
theorem lx:Si prog 55 #[(0,1),(1,1)]:=vj underlying55 (fun _=>by kernel_rfl)
theorem aD:Si prog 59 #[(0,1),(1,1),(2,2),(4,2),(6,1),(7,1),(8,1)]:=vj underlying59 (fun _=>by kernel_rfl)
theorem bD:Si prog 65 #[(0,1),(1,1)]:=vj underlying65 (fun _=>by kernel_rfl)
theorem RI:Si prog 81 #[(0,1),(1,1),(2,1)]:=vj underlying81 (fun _=>by kernel_rfl)
theorem cD:Si prog 84 #[(0,1),(1,1)]:=vj underlying84 (fun _=>by kernel_rfl)
theorem dD:Si prog 88 #[(0,1),(1,1),(2,1),(3,1),(4,1),(5,1)]:=vj underlying88 (fun _=>by kernel_rfl)
theorem mx:Si prog 93 #[(0,1),(1,1),(2,1)]:=vj underlying93 (fun _=>by kernel_rfl)
theorem SI:Si prog 95 #[(0,1),(1,1)]:=vj underlying95 (fun _=>by kernel_rfl)
theorem yn:∀ w,(zeroValue 3).run prog w=.ok (.int .i64 0) w:=Sw (by kernel_rfl)
theorem TI:∀ w,(zeroValue 55).run prog w=.ok (.agg #[.int .i64 0,S []]) w:=Sw (by kernel_rfl)
theorem eD:∀ w,(zeroValue 61).run prog w=.ok (.agg #[.slice none 0 0,.slice none 0 0,.slice none 0 0]) w:=Sw (by kernel_rfl)
theorem Ar:∀ w,(zeroValue 63).run prog w=.ok (.pointer none) w:=Sw (by kernel_rfl)
end Go.Proofs.Yteiemedhecjgiaa
namespace Go.Proofs
open Go.Shelf
def Try.VD:Go.Shelf.Ren:=⟨fun | 144=>93 | 143=>105 | 219=>111 | 217=>113 | 225=>114 | 224=>115 | 267=>116 | 266=>117 | 314=>118 | n=>n,fun | 9=>9 | 4=>4 | 3=>3 | 5=>5 | 46=>197 | 146=>199 | 51=>198 | n=>n,fun | 1=>0 | n=>n⟩
theorem Try.vG:Go.Proofs.Lays.n144 Try.prog Try.VD:={
 mixed:=by kernel_rfl
 f143:=Try.func105.trans (congrArg some (by kernel_rfl))
 f144:=Try.func93.trans (congrArg some (by kernel_rfl))
 f217:=Try.func113.trans (congrArg some (by kernel_rfl))
 f219:=Try.func111.trans (congrArg some (by kernel_rfl))
 f224:=Try.func115.trans (congrArg some (by kernel_rfl))
 f225:=Try.func114.trans (congrArg some (by kernel_rfl))
 f266:=Try.func117.trans (congrArg some (by kernel_rfl))
 f267:=Try.func116.trans (congrArg some (by kernel_rfl))
 f314:=Try.func118.trans (congrArg some (by kernel_rfl))
 t3:=Try.underlying3
 a3:=Try.isAgg3
 z3:=Try.sizeOf3
 v3:=Try.zeroValue3
 t4:=Try.underlying4
 a4:=Try.isAgg4
 z4:=Try.sizeOf4
 v4:=Try.zeroValue4
 t5:=Try.underlying5
 a5:=Try.isAgg5
 z5:=Try.sizeOf5
 v5:=Try.zeroValue5
 t9:=Try.underlying9
 a9:=Try.isAgg9
 z9:=Try.sizeOf9
 v9:=Try.zeroValue9
 t46:=Try.underlying197
 a46:=Try.isAgg197
 z46:=Try.sizeOf197
 v46:=Try.zeroValue197
 t51:=Try.underlying198
 a51:=Try.isAgg198
 z51:=Try.sizeOf198
 v51:=Try.zeroValue198
 t146:=Try.underlying199
 a146:=Try.isAgg199
 z146:=Try.sizeOf199
 v146:=Try.zeroValue199
 g1:=by kernel_rfl }
open Go.RowKit Go.Lib in
theorem Try.strings_Contains (s sub:ByteArray) (m:Int) (w:World) (a:s.size<4294967281) (hm:w.cell? ⟨0,0,none⟩=some (.int .i64 m)) :
  Calls Try.prog 93 #[.string s,.string sub] w fun e w'=>e=.returned (.bool (Lib.contains s.data.toList sub.data.toList))∧w'=w:=Any.strings_Contains Try.vG s sub m w a hm
def Try.WD:Go.Shelf.Ren:=⟨fun | 110=>19 | 109=>40 | n=>n,fun | 31=>38 | 9=>9 | 4=>4 | 3=>3 | 0=>0 | n=>n,fun | n=>n⟩
theorem Try.TB:Go.Proofs.Lays.n110 Try.prog Try.WD:={
 mixed:=by kernel_rfl
 f109:=Try.func40.trans (congrArg some (by kernel_rfl))
 f110:=Try.func19.trans (congrArg some (by kernel_rfl))
 t0:=Try.underlying0
 a0:=Try.isAgg0
 z0:=Try.sizeOf0
 v0:=Try.zeroValue0
 t3:=Try.underlying3
 a3:=Try.isAgg3
 z3:=Try.sizeOf3
 v3:=Try.zeroValue3
 t4:=Try.underlying4
 a4:=Try.isAgg4
 z4:=Try.sizeOf4
 v4:=Try.zeroValue4
 t9:=Try.underlying9
 a9:=Try.isAgg9
 z9:=Try.sizeOf9
 v9:=Try.zeroValue9
 t31:=Try.underlying38
 a31:=Try.isAgg38
 z31:=Try.sizeOf38
 v31:=Try.zeroValue38 }
open Go.Lib in
theorem Try.slices_Contains_string (b off n c:Nat) (a:List ByteArray) (x:ByteArray) (w:World) (d:n≤a.length) (f:n≤9223372036854775807) (g:∀ j,j<a.length→w.cell? ⟨b,off+j,none⟩=some (.string (a.getD j ByteArray.empty))) :
  Calls Try.prog 19 #[.slice (some ⟨b,off,none⟩) n c,.string x] w fun e w'=>e=.returned (.bool (Lib.containsS (a.take n) x))∧w'=w:=Any.slices_Contains_string Try.TB b off n c a x w d f g
open Go.Lib in
theorem Try.slices_Contains_string_empty (a:Option Addr) (c:Nat) (x:ByteArray) (w:World) :
  Calls Try.prog 19 #[.slice a 0 c,.string x] w fun e w'=>e=.returned (.bool false)∧w'=w:=Any.slices_Contains_string_empty Try.TB a c x w
end Go.Proofs
namespace Go.Proofs.Yteiemedhecjgiaa
open Go.pc Go.nd Go.Y Try
def yd:M:=fun w=>∃ m,w.cell? ⟨0,0,none⟩=some (.int .i64 m)
theorem wG {I:M}{J w:World}{U:List yc}{l sub:List UInt8}{b:Bool}(d:ga yd I) (g:Zu l sub=some b) (c:ra I J w U) :
  nc prog 93 [S l,S sub] w (fun v w'=>v=.bool b∧ra I J w' U):=by
 unfold Zu at g;split at g
 ·rename_i za;obtain rfl:=Option.some.inj g;obtain ⟨m,hm⟩:=d w c.a;refine ⟨(strings_Contains ⟨⟨l⟩⟩ ⟨⟨sub⟩⟩ m w za hm).mono fun e w' he=>?_⟩;obtain ⟨rfl,rfl⟩:=he;exact ⟨rfl,c⟩
 ·cases g
end Go.Proofs.Yteiemedhecjgiaa
namespace Go.Proofs.Yteiemedhecjgiaa
open Go.pc Go.nd Go.Y Go.RowKit Try
section
variable {μ I:M}{J w:World}{U rs:List yc}
def Ny (w:World) (v:Value) (vs:List Value):Prop:=(vs=[]∧∃ a c,v=.slice a 0 c)∨∃ b o c,v=.slice (some ⟨b,o,none⟩) vs.length c∧vs.length≤9223372036854775807∧∀ j y,vs[j]?=some y→w.cell? ⟨b,o+j,none⟩=some y
theorem pB {α:Type}[fb α]{f:α→Value}(a:∀ (μ:M) (l:List Value) (x:α),fb.cs μ l x→l=[f x]):∀ {l:List α}{cells:List Value},ua μ cells l→cells=l.map f
 | [],cells,h=>by rw [ua] at h; simp [h]
 | x::l,cells,h=>by
  rw [ua] at h;obtain ⟨cs,t,rfl,b,c⟩:=h;rw [a _ _ _ b,pB a c];rfl
theorem iF {α:Type}[fb α]{f:α→Value}(c:∀ (μ:M) (l:List Value) (x:α),fb.cs μ l x→l=[f x]){v:Value}{T:TypeId}{l:List α}{cells:List Value}(h:Row w v T 1 l.length cells) (d:ua μ cells l):Ny w v (l.map f):=by
 have e:=pB c d;subst e;rcases h.2 with ⟨rfl,b⟩ | ⟨g,o,cap,cur,rfl,i,k,b,n,m⟩
 ·exact .inl ⟨by rw [List.length_eq_zero_iff.1 b];rfl,none,0,rfl⟩
 ·refine .inr ⟨g,o,cap,by simp,by simp;exact Nat.le_trans k (Nat.le_trans b (by decide)),fun j y a=>?_⟩;rw [cell_of_row w g (o+j) cur T (0,0) i];rw [← m,List.getElem?_take] at a;split at a
  ·rw [List.getElem?_drop] at a;simpa using a
  ·cases a
theorem qB {α:Type}[fb α]{f:α→Value}(g:∀ (μ:M) (l:List Value) (x:α),fb.cs μ l x→l=[f x]) (i:fb.sz α=1){a:Option Addr}{c:Nat}{l:List α}(h:Ua μ a c l) (hw:μ w):Ny w (.slice a l.length c) (l.map f):=by
 rcases h.el with rfl | ⟨b,o,rfl,p,k⟩
 ·exact .inl ⟨rfl,a,c,rfl⟩
 ·refine .inr ⟨b,o,c,by simp,by simp;exact Ua.len h,fun j y d=>?_⟩;simp only [List.getElem?_map,Option.map_eq_some_iff] at d;obtain ⟨x,m,rfl⟩:=d;obtain ⟨e,n⟩:=k j x m;rw [g _ _ _ n,i] at e;have:=e w hw 0 _ rfl;simpa using this
theorem gz (μ:M) (l:List Value) (x:List UInt8) (h:fb.cs μ l x):l=[S x]:=h
theorem Jx {v:Value}{l:List (List UInt8)}{x:List UInt8}(h:Ny w v (l.map S)):nc prog 19 [v,S x] w (fun v w'=>v=.bool (l.contains x)∧w'=w):=by
 rcases h with ⟨f,a,c,rfl⟩ | ⟨b,o,c,rfl,za,g⟩
 ·obtain rfl:l=[]:=List.map_eq_nil_iff.1 f;exact ⟨(slices_Contains_string_empty a c ⟨⟨x⟩⟩ w).mono fun e w' he=>by
   obtain ⟨rfl,rfl⟩:=he;exact ⟨rfl,rfl⟩⟩
 ·refine ⟨(slices_Contains_string b o (l.map S).length c (l.map fun y=>⟨⟨y⟩⟩) ⟨⟨x⟩⟩ w (by simp) za ?_).mono fun e w' he=>?_⟩
  ·intro j i;have d:j<l.length:=by simpa using i
   rw [g j (S l[j]) (by simp [d])];simp [List.getElem?_eq_getElem d,S]
  ·obtain ⟨rfl,rfl⟩:=he;refine ⟨?_,rfl⟩;congr 1;rw [List.take_of_length_le (by simp),Bool.eq_iff_iff,Lib.containsS_iff,List.contains_iff_mem];constructor
   ·intro hm;obtain ⟨y,m,e⟩:=List.mem_map.1 hm;have k:y=x:=congrArg (fun b:ByteArray=>b.data.toList) e;rwa [← k]
   ·exact fun hm=>List.mem_map.2 ⟨x,hm,rfl⟩
end
end Go.Proofs.Yteiemedhecjgiaa
