/- Texts of Fl. -/
import Derived.Test.YtbdiobhgejmgoaaGreatDoorCXt
import Derived.Test.YtbdiobhgejmgoaaGreatDoorProg
import Derived.KernelRfl
import Derived.Shelf.Strconv.Itoa0
import Derived.Shelf.Strconv.Itoa1
import Derived.Shelf.LaysM
import Derived.Shelf.Strconv.Itoa2
import Derived.Shelf.Strconv.Itoa3
import Derived.Shelf.Strconv.Itoa4
import Derived.Shelf.Strconv.ParseIntEmpty
import Derived.Shelf.Strconv.Clone
import Derived.Shelf.Strconv.SyntaxError
import Derived.Shelf.LaysC
import Derived.Shelf.Strconv.ToError
import Derived.Shelf.Strconv.Lower
import Derived.Shelf.Strconv.ParseUint10
import Derived.Shelf.Strconv.ParseUint10Empty
import Derived.Shelf.Strconv.ParseUint10Any
import Derived.Shelf.Strconv.ParseInt10
import Derived.Shelf.Strconv.RangeError
import Derived.Shelf.Strconv.ToErrorRange
import Derived.Shelf.Strconv.ParseUintEmpty
import Derived.Shelf.Strconv.ParseUint10b64
import Derived.Shelf.Strconv.ParseUint10b32
import Derived.Shelf.Strconv.ParseUint10b16
import Derived.Shelf.Strconv.ParseUint10b8
import Derived.Shelf.Strconv.ParseUint10At
import Derived.Shelf.Strconv.ParseInt10At64
import Derived.Shelf.Strconv.ParseInt10At32
import Derived.Shelf.Strconv.ParseInt10At16
import Derived.Shelf.Strconv.ParseInt10At8
import Derived.Shelf.Strconv.ParseInt10All
import Derived.Shelf.Strconv.ParseIntPublic10
import Derived.Shelf.Strings.Search1
import Derived.Shelf.Strings.Search2
import Derived.Shelf.Strings.Search3
import Derived.Shelf.Strings.Shaped
import Derived.Test.YtbdiobhgejmgoaaGreatDoorCMd
import Derived.Test.YtbdiobhgejmgoaaGreatDoorCXu
import Derived.Lib.LaidTab
set_option linter.unusedSimpArgs false
set_option linter.unusedVariables false
set_option linter.unusedSectionVars false
namespace Go.Proofs.YtbdiobhgejmgoaaGreatDoor
open Go.Sb Go.ec Tryz
instance Qt:Ic prog 5:=Yc func5
instance az:Ic prog 7:=Yc func7
instance uF:Ic prog 8:=Yc func8
instance bz:Ic prog 9:=Yc func9
instance OD:Ic prog 10:=Yc func10
instance fv:Ic prog 11:=Yc func11
instance PD:Ic prog 12:=Yc func12
instance Dt:Ic prog 13:=Yc func13
instance Gl:Ic prog 14:=Yc func14
instance Hl:Ic prog 15:=Yc func15
instance zy:Ic prog 16:=Yc func16
instance gv:Ic prog 23:=Yc func23
instance QD:Ic prog 24:=Yc func24
instance hv:Ic prog 25:=Yc func25
instance RD:Ic prog 26:=Yc func26
instance iv:Ic prog 27:=Yc func27
instance jv:Ic prog 28:=Yc func28
instance SD:Ic prog 29:=Yc func29
instance Ay:Ic prog 30:=Yc func30
instance Et:Ic prog 31:=Yc func31
instance Ft:Ic prog 32:=Yc func32
instance TD:Ic prog 33:=Yc func33
instance Gt:Ic prog 34:=Yc func34
instance UD:Ic prog 35:=Yc func35
instance VD:Ic prog 36:=Yc func36
instance zf:Ic prog 37:=Yc func37
instance Pg:Ic prog 38:=Yc func38
instance Am:Ic prog 39:=Yc func39
instance Ht:Ic prog 40:=Yc func40
instance jf:Ic prog 41:=Yc func41
instance It:Ic prog 42:=Yc func42
instance cl:Ic prog 43:=Yc func43
instance By:Ic prog 54:=Yc func54
instance Ad:Ic prog 55:=Yc func55
instance Jt:Ic prog 56:=Yc func56
instance WD:Ic prog 57:=Yc func57
instance kv:Ic prog 58:=Yc func58
instance Cy:Ic prog 59:=Yc func59
instance lv:Ic prog 60:=Yc func60
instance Bm:Ic prog 61:=Yc func61
instance mv:Ic prog 62:=Yc func62
instance nv:Ic prog 63:=Yc func63
instance XD:Ic prog 64:=Yc func64
instance YD:Ic prog 67:=Yc func67
instance Dy:Ic prog 68:=Yc func68
instance fl:Ic prog 69:=Yc func69
instance Ey:Ic prog 70:=Yc func70
instance Fy:Ic prog 78:=Yc func78
instance Gy:Ic prog 79:=Yc func79
instance ZD:Ic prog 81:=Yc func81
instance aE:Ic prog 82:=Yc func82
instance bE:Ic prog 83:=Yc func83
instance cE:Ic prog 84:=Yc func84
instance dE:Ic prog 90:=Yc func90
instance Wj:Ic prog 91:=Yc func91
instance ph:Ic prog 92:=Yc func92
instance Hy:Ic prog 96:=Yc func96
instance qn:Ic prog 98:=Yc func98
instance Sx:Ic prog 100:=Yc func100
instance fq:Ic prog 105:=Yc func105
instance QC:Ic prog 113:=Yc func113
instance Tx:Ic prog 114:=Yc func114
instance um:Ic prog 115:=Yc func115
instance RC:Ic prog 117:=Yc func117
instance Ux:Ic prog 118:=Yc func118
instance vm:Ic prog 119:=Yc func119
instance ot:Ic prog 131:=Yc func131
instance gq:Ic prog 137:=Yc func137
instance pt:Ic prog 138:=Yc func138
instance gj:ad prog 2 false [.int .i64 0] 1 8:=lg (z:=.int .i64 0) underlying2
instance Yb:ad prog 3 false [.int .i64 0] 1 8:=lg (z:=.int .i64 0) underlying3
instance zz:ad prog 4 false [.bool false] 1 1:=lg (z:=.bool false) underlying4
instance bw:ad prog 5 false [.int .u8 0] 1 1:=lg (z:=.int .u8 0) underlying5
instance Fb:ad prog 9 false [S []] 1 16:=lg (z:=S []) underlying9
instance Di:ad prog 22 false [.slice none 0 0] 1 24:=lg (z:=.slice none 0 0) underlying22
instance ak:ad prog 23 false [.int .i64 0] 1 8:=lg (z:=.int .i64 0) underlying23
instance gd:ad prog 25 true [.int .i64 0,.int .i64 0] 2 16:=lg (z:=.agg #[.int .i64 0,.int .i64 0]) underlying25
instance Rg:ad prog 36 false [.slice none 0 0] 1 24:=lg (z:=.slice none 0 0) underlying36
instance Nv:ad prog 40 true [.int .i64 0,.int .i64 0] 2 16:=lg (z:=.agg #[.int .i64 0,.int .i64 0]) underlying40
instance dp:ad prog 41 false [.pointer none] 1 8:=lg (z:=.pointer none) underlying41
instance aG:ad prog 43 true [.slice none 0 0,.int .i64 0,.int .i64 0] 3 40:=lg (z:=.agg #[.slice none 0 0,.int .i64 0,.int .i64 0]) underlying43
instance Qe:ad prog 47 true [.int .i64 0,S []] 2 24:=lg (z:=.agg #[.int .i64 0,S []]) underlying47
instance bk:ad prog 48 false [.slice none 0 0] 1 24:=lg (z:=.slice none 0 0) underlying48
instance pg:ad prog 49 false [.slice none 0 0] 1 24:=lg (z:=.slice none 0 0) underlying49
instance pd:ad prog 51 true [.int .i64 0,S [],.int .i64 0,S [],.int .i64 0,S [],.int .i64 0,.slice none 0 0,.slice none 0 0] 9 128:=lg (z:=.agg #[.int .i64 0,S [],.int .i64 0,S [],.int .i64 0,S [],.int .i64 0,.slice none 0 0,.slice none 0 0]) underlying51
instance uh:ad prog 58 true [S [],.int .i64 0,S []] 3 40:=lg (z:=.agg #[S [],.int .i64 0,S []]) underlying58
instance cf:ad prog 59 false [.slice none 0 0] 1 24:=lg (z:=.slice none 0 0) underlying59
instance Wb:ad prog 61 true [.int .i64 0,.int .i64 0,S [],.slice none 0 0] 4 56:=lg (z:=.agg #[.int .i64 0,.int .i64 0,S [],.slice none 0 0]) underlying61
instance Kd:ad prog 63 true [.int .i64 0,S [],.int .i64 0,.int .i64 0,S [],.slice none 0 0,.slice none 0 0,.slice none 0 0] 8 128:=lg (z:=.agg #[.int .i64 0,S [],.int .i64 0,.int .i64 0,S [],.slice none 0 0,.slice none 0 0,.slice none 0 0]) underlying63
instance Vt:ad prog 65 false [.pointer none] 1 8:=lg (z:=.pointer none) underlying65
instance An:ad prog 66 false [.slice none 0 0] 1 24:=lg (z:=.slice none 0 0) underlying66
instance bG:ad prog 68 true [.pointer none,.slice none 0 0] 2 32:=lg (z:=.agg #[.pointer none,.slice none 0 0]) underlying68
instance cG:ad prog 70 true [.pointer none,.slice none 0 0] 2 32:=lg (z:=.agg #[.pointer none,.slice none 0 0]) underlying70
instance dG:ad prog 78 true [.int .i64 0] 1 8:=lg (z:=.agg #[.int .i64 0]) underlying78
instance ni:ad prog 82 true [.int .i64 0,S [],.int .i64 0,.int .i64 0] 4 40:=lg (z:=.agg #[.int .i64 0,S [],.int .i64 0,.int .i64 0]) underlying82
instance Dv:ad prog 132 false [.map none] 1 8:=lg (z:=.map none) underlying132
instance il:ad prog 161 true [.map none,.bool false] 2 16:=lg (z:=.agg #[.map none,.bool false]) underlying161
theorem Ov:prog.eqGuardType prog.depth 47=false:=by kernel_rfl
theorem eG:prog.eqGuardType prog.depth 58=false:=by kernel_rfl
theorem Pv:prog.stoodInHeld 47=false:=by kernel_rfl
theorem fG:prog.stoodInHeld 58=false:=by kernel_rfl
instance Vx:Le prog 161 0 0:=Ze underlying161 rfl rfl rfl Dv rfl
instance SC:Le prog 161 1 1:=Ze underlying161 rfl rfl rfl zz rfl
instance Il:Le prog 25 0 0:=Ze underlying25 rfl rfl rfl ak rfl
instance eE:Le prog 40 0 0:=Ze underlying40 rfl rfl rfl gd rfl
instance Zg:Le prog 43 0 0:=Ze underlying43 rfl rfl rfl Rg rfl
instance fE:Le prog 43 1 1:=Ze underlying43 rfl rfl rfl Yb rfl
instance Ro:Le prog 43 2 2:=Ze underlying43 rfl rfl rfl Yb rfl
instance xr:Le prog 47 0 0:=Ze underlying47 rfl rfl rfl Yb rfl
instance ov:Le prog 47 1 1:=Ze underlying47 rfl rfl rfl Fb rfl
instance ji:Le prog 51 0 0:=Ze underlying51 rfl rfl rfl Yb rfl
instance So:Le prog 51 1 1:=Ze underlying51 rfl rfl rfl Fb rfl
instance rn:Le prog 51 2 2:=Ze underlying51 rfl rfl rfl Qe rfl
instance To:Le prog 51 3 4:=Ze underlying51 rfl rfl rfl Qe rfl
instance sn:Le prog 51 4 6:=Ze underlying51 rfl rfl rfl Yb rfl
instance Jl:Le prog 51 5 7:=Ze underlying51 rfl rfl rfl bk rfl
instance Cm:Le prog 51 6 8:=Ze underlying51 rfl rfl rfl pg rfl
instance pv:Le prog 58 0 0:=Ze underlying58 rfl rfl rfl Fb rfl
instance qv:Le prog 58 1 1:=Ze underlying58 rfl rfl rfl Qe rfl
instance Jh:Le prog 61 0 0:=Ze underlying61 rfl rfl rfl Yb rfl
instance gl:Le prog 61 1 1:=Ze underlying61 rfl rfl rfl gj rfl
instance wj:Le prog 61 2 2:=Ze underlying61 rfl rfl rfl Fb rfl
instance Mf:Le prog 61 3 3:=Ze underlying61 rfl rfl rfl cf rfl
instance Eg:Le prog 63 0 0:=Ze underlying63 rfl rfl rfl Yb rfl
instance Dm:Le prog 63 1 1:=Ze underlying63 rfl rfl rfl Fb rfl
instance Em:Le prog 63 2 2:=Ze underlying63 rfl rfl rfl Wb rfl
instance mq:Le prog 63 3 6:=Ze underlying63 rfl rfl rfl pg rfl
instance Xn:Le prog 63 4 7:=Ze underlying63 rfl rfl rfl pg rfl
instance rv:Le prog 68 0 0:=Ze underlying68 rfl rfl rfl Vt rfl
instance Uo:Le prog 68 1 1:=Ze underlying68 rfl rfl rfl An rfl
instance Yn:Le prog 70 0 0:=Ze underlying70 rfl rfl rfl bG rfl
instance sv:Le prog 78 0 0:=Ze underlying78 rfl rfl rfl Yb rfl
instance nq:Le prog 82 0 0:=Ze underlying82 rfl rfl rfl Yb rfl
instance Fm:Le prog 82 1 1:=Ze underlying82 rfl rfl rfl Fb rfl
instance Iy:Le prog 82 2 2:=Ze underlying82 rfl rfl rfl gj rfl
instance gE:Le prog 82 3 3:=Ze underlying82 rfl rfl rfl Yb rfl
theorem Gr:Ej prog 161 #[(0,1),(1,1)]:=hl underlying161 (fun _=>by kernel_rfl)
theorem Tl:Ej prog 25 #[(0,1),(1,1)]:=hl underlying25 (fun _=>by kernel_rfl)
theorem gG:Ej prog 40 #[(0,2)]:=hl underlying40 (fun _=>by kernel_rfl)
theorem hG:Ej prog 43 #[(0,1),(1,1),(2,1)]:=hl underlying43 (fun _=>by kernel_rfl)
theorem Qv:Ej prog 47 #[(0,1),(1,1)]:=hl underlying47 (fun _=>by kernel_rfl)
theorem Pr:Ej prog 51 #[(0,1),(1,1),(2,2),(4,2),(6,1),(7,1),(8,1)]:=hl underlying51 (fun _=>by kernel_rfl)
theorem nz:Ej prog 58 #[(0,1),(1,2)]:=hl underlying58 (fun _=>by kernel_rfl)
theorem ck:Ej prog 61 #[(0,1),(1,1),(2,1),(3,1)]:=hl underlying61 (fun _=>by kernel_rfl)
theorem Lm:Ej prog 63 #[(0,1),(1,1),(2,4),(6,1),(7,1)]:=hl underlying63 (fun _=>by kernel_rfl)
theorem iG:Ej prog 70 #[(0,2)]:=hl underlying70 (fun _=>by kernel_rfl)
theorem jG:Ej prog 78 #[(0,1)]:=hl underlying78 (fun _=>by kernel_rfl)
theorem kG:Ej prog 82 #[(0,1),(1,1),(2,1),(3,1)]:=hl underlying82 (fun _=>by kernel_rfl)
theorem CG:∀ w,(zeroValue 3).run prog w=.ok (.int .i64 0) w:=Xy (by kernel_rfl)
theorem au:∀ w,(zeroValue 9).run prog w=.ok (S []) w:=Xy (by kernel_rfl)
end Go.Proofs.YtbdiobhgejmgoaaGreatDoor
namespace Go.Proofs
open Go.Shelf
def Tryz.Lz:Go.Shelf.Ren:=⟨fun | 171=>57 | 243=>80 | 246=>97 | 283=>109 | 284=>110 | 285=>111 | 286=>112 | 129=>123 | 317=>122 | 318=>124 | 319=>125 | 320=>126 | 337=>133 | 338=>134 | n=>n,fun | 3=>3 | 9=>9 | 2=>2 | 4=>4 | 171=>147 | 0=>0 | 53=>124 | 37=>66 | 5=>5 | 173=>150 | 212=>165 | 51=>166 | 20=>20 | 213=>167 | 46=>127 | 232=>177 | 233=>178 | n=>n,fun | 17=>2 | 18=>4 | 19=>5 | n=>n⟩
theorem Tryz.QB:Go.Proofs.LaysM.n171 Tryz.prog Tryz.Lz:={
 mixed:=by kernel_rfl
 f129:=Tryz.func123.trans (congrArg some (by kernel_rfl))
 f171:=Tryz.func57.trans (congrArg some (by kernel_rfl))
 f243:=Tryz.func80.trans (congrArg some (by kernel_rfl))
 f246:=Tryz.func97.trans (congrArg some (by kernel_rfl))
 f283:=Tryz.func109.trans (congrArg some (by kernel_rfl))
 f284:=Tryz.func110.trans (congrArg some (by kernel_rfl))
 f285:=Tryz.func111.trans (congrArg some (by kernel_rfl))
 f286:=Tryz.func112.trans (congrArg some (by kernel_rfl))
 f317:=Tryz.func122.trans (congrArg some (by kernel_rfl))
 f318:=Tryz.func124.trans (congrArg some (by kernel_rfl))
 f319:=Tryz.func125.trans (congrArg some (by kernel_rfl))
 f320:=Tryz.func126.trans (congrArg some (by kernel_rfl))
 f337:=Tryz.func133.trans (congrArg some (by kernel_rfl))
 f338:=Tryz.func134.trans (congrArg some (by kernel_rfl))
 t0:=Tryz.underlying0
 a0:=Tryz.isAgg0
 z0:=Tryz.sizeOf0
 v0:=Tryz.zeroValue0
 t2:=Tryz.underlying2
 a2:=Tryz.isAgg2
 z2:=Tryz.sizeOf2
 v2:=Tryz.zeroValue2
 t3:=Tryz.underlying3
 a3:=Tryz.isAgg3
 z3:=Tryz.sizeOf3
 v3:=Tryz.zeroValue3
 t4:=Tryz.underlying4
 a4:=Tryz.isAgg4
 z4:=Tryz.sizeOf4
 v4:=Tryz.zeroValue4
 t5:=Tryz.underlying5
 a5:=Tryz.isAgg5
 z5:=Tryz.sizeOf5
 v5:=Tryz.zeroValue5
 t9:=Tryz.underlying9
 a9:=Tryz.isAgg9
 z9:=Tryz.sizeOf9
 v9:=Tryz.zeroValue9
 t20:=Tryz.underlying20
 a20:=Tryz.isAgg20
 z20:=Tryz.sizeOf20
 v20:=Tryz.zeroValue20
 t37:=Tryz.underlying66
 a37:=Tryz.isAgg66
 z37:=Tryz.sizeOf66
 v37:=Tryz.zeroValue66
 t46:=Tryz.underlying127
 a46:=Tryz.isAgg127
 z46:=Tryz.sizeOf127
 v46:=Tryz.zeroValue127
 t51:=Tryz.underlying166
 a51:=Tryz.isAgg166
 z51:=Tryz.sizeOf166
 v51:=Tryz.zeroValue166
 t53:=Tryz.underlying124
 a53:=Tryz.isAgg124
 z53:=Tryz.sizeOf124
 v53:=Tryz.zeroValue124
 t171:=Tryz.underlying147
 a171:=Tryz.isAgg147
 z171:=Tryz.sizeOf147
 v171:=Tryz.zeroValue147
 t173:=Tryz.underlying150
 a173:=Tryz.isAgg150
 z173:=Tryz.sizeOf150
 v173:=Tryz.zeroValue150
 t212:=Tryz.underlying165
 a212:=Tryz.isAgg165
 z212:=Tryz.sizeOf165
 v212:=Tryz.zeroValue165
 t213:=Tryz.underlying167
 a213:=Tryz.isAgg167
 z213:=Tryz.sizeOf167
 t232:=Tryz.underlying177
 a232:=Tryz.isAgg177
 z232:=Tryz.sizeOf177
 v232:=Tryz.zeroValue177
 t233:=Tryz.underlying178
 a233:=Tryz.isAgg178
 z233:=Tryz.sizeOf178
 v233:=Tryz.zeroValue178
 g17:=by kernel_rfl
 g18:=by kernel_rfl
 g19:=by kernel_rfl
 i0:=by kernel_rfl
 i2:=by kernel_rfl
 i3:=by kernel_rfl
 i4:=by kernel_rfl
 i5:=by kernel_rfl
 i9:=by kernel_rfl
 i20:=by kernel_rfl
 i37:=by kernel_rfl
 i46:=by kernel_rfl
 i51:=by kernel_rfl
 i53:=by kernel_rfl
 i171:=by kernel_rfl
 i173:=by kernel_rfl
 i212:=by kernel_rfl
 i232:=by kernel_rfl
 i233:=by kernel_rfl
 m17:=by kernel_rfl
 m18:=by kernel_rfl
 m19:=by kernel_rfl }
open Go.RowKit Go.Sort Go.Lib in
theorem Tryz.strconv_Itoa (n : Int) (a : -9223372036854775808 ≤ n) (b : n ≤ 9223372036854775807) (w : World) (c : Lib.TabIs Tryz.prog w "internal/strconv.uint64pow10" .u64 Lib.pow10Tab) :
  Calls Tryz.prog 57 #[.int .i64 n] w fun e w'=>e=.returned (.string ⟨(Lib.itoa n).toArray⟩)∧∃ k os,w'=grow (w.drewN k) os:=Any.strconv_Itoa Tryz.QB n a b w c
def Tryz.Mz:Go.Shelf.Ren:=⟨fun | 173=>114 | 246=>97 | 283=>109 | 284=>110 | 285=>111 | 286=>112 | 129=>123 | 317=>122 | 318=>124 | 319=>125 | 320=>126 | 337=>133 | 338=>134 | n=>n,fun | 2=>2 | 3=>3 | 9=>9 | 4=>4 | 171=>147 | 0=>0 | 53=>124 | 37=>66 | 5=>5 | 173=>150 | 212=>165 | 51=>166 | 20=>20 | 213=>167 | 46=>127 | 232=>177 | 233=>178 | n=>n,fun | 17=>2 | 18=>4 | 19=>5 | n=>n⟩
theorem Tryz.RB:Go.Proofs.LaysM.n173 Tryz.prog Tryz.Mz:={
 mixed:=by kernel_rfl
 f129:=Tryz.func123.trans (congrArg some (by kernel_rfl))
 f173:=Tryz.func114.trans (congrArg some (by kernel_rfl))
 f246:=Tryz.func97.trans (congrArg some (by kernel_rfl))
 f283:=Tryz.func109.trans (congrArg some (by kernel_rfl))
 f284:=Tryz.func110.trans (congrArg some (by kernel_rfl))
 f285:=Tryz.func111.trans (congrArg some (by kernel_rfl))
 f286:=Tryz.func112.trans (congrArg some (by kernel_rfl))
 f317:=Tryz.func122.trans (congrArg some (by kernel_rfl))
 f318:=Tryz.func124.trans (congrArg some (by kernel_rfl))
 f319:=Tryz.func125.trans (congrArg some (by kernel_rfl))
 f320:=Tryz.func126.trans (congrArg some (by kernel_rfl))
 f337:=Tryz.func133.trans (congrArg some (by kernel_rfl))
 f338:=Tryz.func134.trans (congrArg some (by kernel_rfl))
 t0:=Tryz.underlying0
 a0:=Tryz.isAgg0
 z0:=Tryz.sizeOf0
 v0:=Tryz.zeroValue0
 t2:=Tryz.underlying2
 a2:=Tryz.isAgg2
 z2:=Tryz.sizeOf2
 v2:=Tryz.zeroValue2
 t3:=Tryz.underlying3
 a3:=Tryz.isAgg3
 z3:=Tryz.sizeOf3
 v3:=Tryz.zeroValue3
 t4:=Tryz.underlying4
 a4:=Tryz.isAgg4
 z4:=Tryz.sizeOf4
 v4:=Tryz.zeroValue4
 t5:=Tryz.underlying5
 a5:=Tryz.isAgg5
 z5:=Tryz.sizeOf5
 v5:=Tryz.zeroValue5
 t9:=Tryz.underlying9
 a9:=Tryz.isAgg9
 z9:=Tryz.sizeOf9
 v9:=Tryz.zeroValue9
 t20:=Tryz.underlying20
 a20:=Tryz.isAgg20
 z20:=Tryz.sizeOf20
 v20:=Tryz.zeroValue20
 t37:=Tryz.underlying66
 a37:=Tryz.isAgg66
 z37:=Tryz.sizeOf66
 v37:=Tryz.zeroValue66
 t46:=Tryz.underlying127
 a46:=Tryz.isAgg127
 z46:=Tryz.sizeOf127
 v46:=Tryz.zeroValue127
 t51:=Tryz.underlying166
 a51:=Tryz.isAgg166
 z51:=Tryz.sizeOf166
 v51:=Tryz.zeroValue166
 t53:=Tryz.underlying124
 a53:=Tryz.isAgg124
 z53:=Tryz.sizeOf124
 v53:=Tryz.zeroValue124
 t171:=Tryz.underlying147
 a171:=Tryz.isAgg147
 z171:=Tryz.sizeOf147
 v171:=Tryz.zeroValue147
 t173:=Tryz.underlying150
 a173:=Tryz.isAgg150
 z173:=Tryz.sizeOf150
 v173:=Tryz.zeroValue150
 t212:=Tryz.underlying165
 a212:=Tryz.isAgg165
 z212:=Tryz.sizeOf165
 v212:=Tryz.zeroValue165
 t213:=Tryz.underlying167
 a213:=Tryz.isAgg167
 z213:=Tryz.sizeOf167
 t232:=Tryz.underlying177
 a232:=Tryz.isAgg177
 z232:=Tryz.sizeOf177
 v232:=Tryz.zeroValue177
 t233:=Tryz.underlying178
 a233:=Tryz.isAgg178
 z233:=Tryz.sizeOf178
 v233:=Tryz.zeroValue178
 g17:=by kernel_rfl
 g18:=by kernel_rfl
 g19:=by kernel_rfl
 i0:=by kernel_rfl
 i2:=by kernel_rfl
 i3:=by kernel_rfl
 i4:=by kernel_rfl
 i5:=by kernel_rfl
 i9:=by kernel_rfl
 i20:=by kernel_rfl
 i37:=by kernel_rfl
 i46:=by kernel_rfl
 i51:=by kernel_rfl
 i53:=by kernel_rfl
 i171:=by kernel_rfl
 i173:=by kernel_rfl
 i212:=by kernel_rfl
 i232:=by kernel_rfl
 i233:=by kernel_rfl
 m17:=by kernel_rfl
 m18:=by kernel_rfl
 m19:=by kernel_rfl }
open Go.RowKit Go.Sort Go.Lib in
theorem Tryz.strconv_FormatInt_10 (n : Int) (a : -9223372036854775808 ≤ n) (b : n ≤ 9223372036854775807) (w : World) (c : Lib.TabIs Tryz.prog w "internal/strconv.uint64pow10" .u64 Lib.pow10Tab) :
  Calls Tryz.prog 114 #[.int .i64 n,.int .i64 10] w fun e w'=>e=.returned (.string ⟨(Lib.itoa n).toArray⟩)∧∃ k os,w'=grow (w.drewN k) os:=Any.strconv_FormatInt_10 Tryz.RB n a b w c
def Tryz.Nz:Go.Shelf.Ren:=⟨fun | 174=>35 | 247=>65 | 245=>66 | 287=>85 | 279=>86 | 280=>87 | 281=>88 | 282=>89 | 321=>101 | 322=>102 | 316=>103 | 171=>57 | 205=>104 | 243=>80 | 246=>97 | 283=>109 | 284=>110 | 285=>111 | 286=>112 | 129=>123 | 317=>122 | 318=>124 | 319=>125 | 320=>126 | 337=>133 | 338=>134 | n=>n,fun | 9=>9 | 3=>3 | 2=>2 | 75=>86 | 85=>87 | 4=>4 | 167=>123 | 5=>5 | 53=>124 | 175=>125 | 46=>127 | 168=>128 | 37=>66 | 0=>0 | 210=>141 | 21=>21 | 127=>106 | 145=>157 | 143=>155 | 171=>147 | 173=>150 | 212=>165 | 51=>166 | 20=>20 | 213=>167 | 232=>177 | 233=>178 | 80=>73 | n=>n,fun | 15=>0 | 16=>1 | 17=>2 | 18=>4 | 19=>5 | n=>n⟩
theorem Tryz.SB:Go.Proofs.LaysC.n174 Tryz.prog Tryz.Nz:={
 mixed:=by kernel_rfl
 f129:=Tryz.func123.trans (congrArg some (by kernel_rfl))
 f171:=Tryz.func57.trans (congrArg some (by kernel_rfl))
 f174:=Tryz.func35.trans (congrArg some (by kernel_rfl))
 f205:=Tryz.func104.trans (congrArg some (by kernel_rfl))
 f243:=Tryz.func80.trans (congrArg some (by kernel_rfl))
 f245:=Tryz.func66.trans (congrArg some (by kernel_rfl))
 f246:=Tryz.func97.trans (congrArg some (by kernel_rfl))
 f247:=Tryz.func65.trans (congrArg some (by kernel_rfl))
 f279:=Tryz.func86.trans (congrArg some (by kernel_rfl))
 f280:=Tryz.func87.trans (congrArg some (by kernel_rfl))
 f281:=Tryz.func88.trans (congrArg some (by kernel_rfl))
 f282:=Tryz.func89.trans (congrArg some (by kernel_rfl))
 f283:=Tryz.func109.trans (congrArg some (by kernel_rfl))
 f284:=Tryz.func110.trans (congrArg some (by kernel_rfl))
 f285:=Tryz.func111.trans (congrArg some (by kernel_rfl))
 f286:=Tryz.func112.trans (congrArg some (by kernel_rfl))
 f287:=Tryz.func85.trans (congrArg some (by kernel_rfl))
 f316:=Tryz.func103.trans (congrArg some (by kernel_rfl))
 f317:=Tryz.func122.trans (congrArg some (by kernel_rfl))
 f318:=Tryz.func124.trans (congrArg some (by kernel_rfl))
 f319:=Tryz.func125.trans (congrArg some (by kernel_rfl))
 f320:=Tryz.func126.trans (congrArg some (by kernel_rfl))
 f321:=Tryz.func101.trans (congrArg some (by kernel_rfl))
 f322:=Tryz.func102.trans (congrArg some (by kernel_rfl))
 f337:=Tryz.func133.trans (congrArg some (by kernel_rfl))
 f338:=Tryz.func134.trans (congrArg some (by kernel_rfl))
 t0:=Tryz.underlying0
 a0:=Tryz.isAgg0
 z0:=Tryz.sizeOf0
 v0:=Tryz.zeroValue0
 t2:=Tryz.underlying2
 a2:=Tryz.isAgg2
 z2:=Tryz.sizeOf2
 v2:=Tryz.zeroValue2
 t3:=Tryz.underlying3
 a3:=Tryz.isAgg3
 z3:=Tryz.sizeOf3
 v3:=Tryz.zeroValue3
 t4:=Tryz.underlying4
 a4:=Tryz.isAgg4
 z4:=Tryz.sizeOf4
 v4:=Tryz.zeroValue4
 t5:=Tryz.underlying5
 a5:=Tryz.isAgg5
 z5:=Tryz.sizeOf5
 v5:=Tryz.zeroValue5
 t9:=Tryz.underlying9
 a9:=Tryz.isAgg9
 z9:=Tryz.sizeOf9
 v9:=Tryz.zeroValue9
 t20:=Tryz.underlying20
 a20:=Tryz.isAgg20
 z20:=Tryz.sizeOf20
 v20:=Tryz.zeroValue20
 t21:=Tryz.underlying21
 a21:=Tryz.isAgg21
 z21:=Tryz.sizeOf21
 v21:=Tryz.zeroValue21
 t37:=Tryz.underlying66
 a37:=Tryz.isAgg66
 z37:=Tryz.sizeOf66
 v37:=Tryz.zeroValue66
 t46:=Tryz.underlying127
 a46:=Tryz.isAgg127
 z46:=Tryz.sizeOf127
 v46:=Tryz.zeroValue127
 t51:=Tryz.underlying166
 a51:=Tryz.isAgg166
 z51:=Tryz.sizeOf166
 v51:=Tryz.zeroValue166
 t53:=Tryz.underlying124
 a53:=Tryz.isAgg124
 z53:=Tryz.sizeOf124
 v53:=Tryz.zeroValue124
 t75:=Tryz.underlying86
 a75:=Tryz.isAgg86
 z75:=Tryz.sizeOf86
 v75:=Tryz.zeroValue86
 t85:=Tryz.underlying87
 a85:=Tryz.isAgg87
 z85:=Tryz.sizeOf87
 v85:=Tryz.zeroValue87
 t127:=Tryz.underlying106
 a127:=Tryz.isAgg106
 z127:=Tryz.sizeOf106
 v127:=Tryz.zeroValue106
 t143:=Tryz.underlying155
 a143:=Tryz.isAgg155
 z143:=Tryz.sizeOf155
 v143:=Tryz.zeroValue155
 t145:=Tryz.underlying157
 a145:=Tryz.isAgg157
 z145:=Tryz.sizeOf157
 v145:=Tryz.zeroValue157
 t167:=Tryz.underlying123
 a167:=Tryz.isAgg123
 z167:=Tryz.sizeOf123
 v167:=Tryz.zeroValue123
 t168:=Tryz.underlying128
 a168:=Tryz.isAgg128
 z168:=Tryz.sizeOf128
 v168:=Tryz.zeroValue128
 t171:=Tryz.underlying147
 a171:=Tryz.isAgg147
 z171:=Tryz.sizeOf147
 v171:=Tryz.zeroValue147
 t173:=Tryz.underlying150
 a173:=Tryz.isAgg150
 z173:=Tryz.sizeOf150
 v173:=Tryz.zeroValue150
 t175:=Tryz.underlying125
 a175:=Tryz.isAgg125
 z175:=Tryz.sizeOf125
 v175:=Tryz.zeroValue125
 t210:=Tryz.underlying141
 a210:=Tryz.isAgg141
 z210:=Tryz.sizeOf141
 v210:=Tryz.zeroValue141
 t212:=Tryz.underlying165
 a212:=Tryz.isAgg165
 z212:=Tryz.sizeOf165
 v212:=Tryz.zeroValue165
 t213:=Tryz.underlying167
 a213:=Tryz.isAgg167
 z213:=Tryz.sizeOf167
 t232:=Tryz.underlying177
 a232:=Tryz.isAgg177
 z232:=Tryz.sizeOf177
 v232:=Tryz.zeroValue177
 t233:=Tryz.underlying178
 a233:=Tryz.isAgg178
 z233:=Tryz.sizeOf178
 v233:=Tryz.zeroValue178
 g15:=by kernel_rfl
 g16:=by kernel_rfl
 g17:=by kernel_rfl
 g18:=by kernel_rfl
 g19:=by kernel_rfl
 t80:=Tryz.underlying73
 a80:=Tryz.isAgg73
 z80:=Tryz.sizeOf73
 v80:=Tryz.zeroValue73
 i0:=by kernel_rfl
 i2:=by kernel_rfl
 i3:=by kernel_rfl
 i4:=by kernel_rfl
 i5:=by kernel_rfl
 i9:=by kernel_rfl
 i20:=by kernel_rfl
 i21:=by kernel_rfl
 i37:=by kernel_rfl
 i46:=by kernel_rfl
 i51:=by kernel_rfl
 i53:=by kernel_rfl
 i75:=by kernel_rfl
 i80:=by kernel_rfl
 i85:=by kernel_rfl
 i127:=by kernel_rfl
 i143:=by kernel_rfl
 i145:=by kernel_rfl
 i167:=by kernel_rfl
 i168:=by kernel_rfl
 i171:=by kernel_rfl
 i173:=by kernel_rfl
 i175:=by kernel_rfl
 i210:=by kernel_rfl
 i212:=by kernel_rfl
 i232:=by kernel_rfl
 i233:=by kernel_rfl
 m15:=by kernel_rfl
 m16:=by kernel_rfl
 m17:=by kernel_rfl
 m18:=by kernel_rfl
 m19:=by kernel_rfl
 c0:=by kernel_rfl
 c2:=by kernel_rfl
 c3:=by kernel_rfl
 c4:=by kernel_rfl
 c5:=by kernel_rfl
 c9:=by kernel_rfl
 c20:=by kernel_rfl
 c21:=by kernel_rfl
 c37:=by kernel_rfl
 c46:=by kernel_rfl
 c51:=by kernel_rfl
 c53:=by kernel_rfl
 c75:=by kernel_rfl
 c80:=by kernel_rfl
 c85:=by kernel_rfl
 c127:=by kernel_rfl
 c143:=by kernel_rfl
 c145:=by kernel_rfl
 c167:=by kernel_rfl
 c168:=by kernel_rfl
 c171:=by kernel_rfl
 c173:=by kernel_rfl
 c175:=by kernel_rfl
 c210:=by kernel_rfl
 c212:=by kernel_rfl
 c213:=by kernel_rfl
 c232:=by kernel_rfl
 c233:=by kernel_rfl }
open Go.RowKit in
theorem Tryz.strconv_ParseInt_10_at64_ok (s:ByteArray) (a:s.size≤9223372036854775806) (v:Int) (h:Lib.parseIntB 64 s.data.toList=.ok v) (w:World) :
  Calls Tryz.prog 35 #[.string s,.int .i64 10,.int .i64 64] w fun e w'=>e=.returned (.tuple #[.int .i64 v,.nilIface])∧(w'=w∨∃ t,w'=Lib.bytesWorld w 5 t):=Any.strconv_ParseInt_10_at64_ok Tryz.SB s a v h w
def Tryz.Xz:Go.Shelf.Ren:=⟨fun | 144=>82 | 143=>99 | 219=>116 | 217=>127 | 225=>128 | 224=>129 | 267=>130 | 266=>135 | 314=>136 | n=>n,fun | 9=>9 | 4=>4 | 3=>3 | 5=>5 | 46=>127 | 146=>172 | 51=>166 | n=>n,fun | 1=>3 | n=>n⟩
theorem Tryz.TC:Go.Proofs.Lays.n144 Tryz.prog Tryz.Xz:={
 mixed:=by kernel_rfl
 f143:=Tryz.func99.trans (congrArg some (by kernel_rfl))
 f144:=Tryz.func82.trans (congrArg some (by kernel_rfl))
 f217:=Tryz.func127.trans (congrArg some (by kernel_rfl))
 f219:=Tryz.func116.trans (congrArg some (by kernel_rfl))
 f224:=Tryz.func129.trans (congrArg some (by kernel_rfl))
 f225:=Tryz.func128.trans (congrArg some (by kernel_rfl))
 f266:=Tryz.func135.trans (congrArg some (by kernel_rfl))
 f267:=Tryz.func130.trans (congrArg some (by kernel_rfl))
 f314:=Tryz.func136.trans (congrArg some (by kernel_rfl))
 t3:=Tryz.underlying3
 a3:=Tryz.isAgg3
 z3:=Tryz.sizeOf3
 v3:=Tryz.zeroValue3
 t4:=Tryz.underlying4
 a4:=Tryz.isAgg4
 z4:=Tryz.sizeOf4
 v4:=Tryz.zeroValue4
 t5:=Tryz.underlying5
 a5:=Tryz.isAgg5
 z5:=Tryz.sizeOf5
 v5:=Tryz.zeroValue5
 t9:=Tryz.underlying9
 a9:=Tryz.isAgg9
 z9:=Tryz.sizeOf9
 v9:=Tryz.zeroValue9
 t46:=Tryz.underlying127
 a46:=Tryz.isAgg127
 z46:=Tryz.sizeOf127
 v46:=Tryz.zeroValue127
 t51:=Tryz.underlying166
 a51:=Tryz.isAgg166
 z51:=Tryz.sizeOf166
 v51:=Tryz.zeroValue166
 t146:=Tryz.underlying172
 a146:=Tryz.isAgg172
 z146:=Tryz.sizeOf172
 v146:=Tryz.zeroValue172
 g1:=by kernel_rfl }
open Go.RowKit Go.Lib in
theorem Tryz.strings_Contains (s sub:ByteArray) (m:Int) (w:World) (a:s.size<4294967281) (hm:w.cell? ⟨3,0,none⟩=some (.int .i64 m)) :
  Calls Tryz.prog 82 #[.string s,.string sub] w fun e w'=>e=.returned (.bool (Lib.contains s.data.toList sub.data.toList))∧w'=w:=Any.strings_Contains Tryz.TC s sub m w a hm
end Go.Proofs
namespace Go.Proofs.YtbdiobhgejmgoaaGreatDoor
open Go.Sb Go.ec Go.Y Tryz
def uc : M := fun w => (∃ m, w.cell? ⟨3, 0, none⟩ = some (.int .i64 m)) ∧ Lib.TabIs prog w "internal/strconv.uint64pow10" .u64 Lib.pow10Tab
theorem hE {I:M}{J w:World}{O:List wb}{l:List UInt8}{r:Int}(g:Sl l=some r) (b:Na I J w O) :
  Pc prog 35 [S l,.int .i64 10,.int .i64 64] w (fun v w'=>v=.tuple ⟨[.int .i64 r,.nilIface]⟩∧Na I J w' O):=by
 unfold Sl at g;split at g
 ·rename_i c;cases a:Lib.parseIntB 64 l with
  | ok v =>
   rw [a] at g;obtain rfl:=Option.some.inj g;refine ⟨(strconv_ParseInt_10_at64_ok ⟨⟨l⟩⟩ c v a w).mono fun e w' he=>?_⟩;obtain ⟨rfl,hw⟩:=he;refine ⟨rfl,?_⟩;rcases hw with rfl | ⟨t,rfl⟩
   ·exact b
   ·have h:=Lib.bytesWorld_below w 5 t;exact b.grow ⟨h.os,h.tape,h.output,h.size,fun k d _=>h.block k d⟩
  | _=>rw [a] at g; cases g
 ·cases g
theorem UC {I:M}{J w:World}{O:List wb}{l sub:List UInt8}{b:Bool}(d:ra uc I) (g:vq l sub=some b) (c:Na I J w O) :
  Pc prog 82 [S l,S sub] w (fun v w'=>v=.bool b∧Na I J w' O):=by
 unfold vq at g;split at g
 ·rename_i f;obtain rfl:=Option.some.inj g;obtain ⟨⟨m,hm⟩,-⟩:=d w c.a;refine ⟨(strings_Contains ⟨⟨l⟩⟩ ⟨⟨sub⟩⟩ m w f hm).mono fun e w' he=>?_⟩;obtain ⟨rfl,rfl⟩:=he;exact ⟨rfl,c⟩
 ·cases g
theorem Bw (w:World) (n:Nat) (os:Array Obj):Grow w (Go.Sort.grow (w.drewN n) os):=⟨rfl,rfl,rfl,by simp [Go.Sort.grow],fun k a _=>by
 simp only [Go.Sort.grow,World.heap_drewN];exact Array.getElem?_append_left a⟩
theorem cz {I:M}{J w:World}{O:List wb}{n:Int}{r:List UInt8}(c:ra uc I) (g:vn n=some r) (b:Na I J w O) :
  Pc prog 114 [.int .i64 n,.int .i64 10] w (fun v w'=>v=S r∧Na I J w' O):=by
 unfold vn at g;split at g
 ·rename_i h;obtain rfl:=Option.some.inj g;obtain ⟨-,d⟩:=c w b.a;refine ⟨(strconv_FormatInt_10 n h.1 h.2 w d).mono fun e w' he=>?_⟩;obtain ⟨rfl,k,os,rfl⟩:=he;exact ⟨rfl,b.grow (Bw w k os)⟩
 ·cases g
theorem iE {I:M}{J w:World}{O:List wb}{n:Int}{r:List UInt8}(c:ra uc I) (g:vn n=some r) (b:Na I J w O) :
  Pc prog 57 [.int .i64 n] w (fun v w'=>v=S r∧Na I J w' O):=by
 unfold vn at g;split at g
 ·rename_i h;obtain rfl:=Option.some.inj g;obtain ⟨-,d⟩:=c w b.a;refine ⟨(strconv_Itoa n h.1 h.2 w d).mono fun e w' he=>?_⟩;obtain ⟨rfl,k,os,rfl⟩:=he;exact ⟨rfl,b.grow (Bw w k os)⟩
 ·cases g
end Go.Proofs.YtbdiobhgejmgoaaGreatDoor
