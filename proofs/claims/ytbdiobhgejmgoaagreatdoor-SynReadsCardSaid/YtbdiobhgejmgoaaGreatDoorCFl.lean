/- Texts of Fl. -/
import Derived.Test.YtbdiobhgejmgoaaGreatDoorCXt
import Derived.Test.YtbdiobhgejmgoaaGreatDoorProg
import Derived.KernelRfl
import Derived.Shelf.Strconv.Itoa0
import Derived.Shelf.Strconv.Itoa1
import Derived.Shelf.LaysM
import Derived.Shelf.Strconv.Itoa2
import Derived.Shelf.Strconv.Itoa3
import Derived.Shelf.Strconv.Itoa4
import Derived.Shelf.Strconv.ParseIntEmpty
import Derived.Shelf.Strconv.Clone
import Derived.Shelf.Strconv.SyntaxError
import Derived.Shelf.LaysC
import Derived.Shelf.Strconv.ToError
import Derived.Shelf.Strconv.Lower
import Derived.Shelf.Strconv.ParseUint10
import Derived.Shelf.Strconv.ParseUint10Empty
import Derived.Shelf.Strconv.ParseUint10Any
import Derived.Shelf.Strconv.ParseInt10
import Derived.Shelf.Strconv.RangeError
import Derived.Shelf.Strconv.ToErrorRange
import Derived.Shelf.Strconv.ParseUintEmpty
import Derived.Shelf.Strconv.ParseUint10b64
import Derived.Shelf.Strconv.ParseUint10b32
import Derived.Shelf.Strconv.ParseUint10b16
import Derived.Shelf.Strconv.ParseUint10b8
import Derived.Shelf.Strconv.ParseUint10At
import Derived.Shelf.Strconv.ParseInt10At64
import Derived.Shelf.Strconv.ParseInt10At32
import Derived.Shelf.Strconv.ParseInt10At16
import Derived.Shelf.Strconv.ParseInt10At8
import Derived.Shelf.Strconv.ParseInt10All
import Derived.Shelf.Strconv.ParseIntPublic10
import Derived.Shelf.Strings.Search1
import Derived.Shelf.Strings.Search2
import Derived.Shelf.Strings.Search3
import Derived.Shelf.Strings.Shaped
import Derived.Test.YtbdiobhgejmgoaaGreatDoorCMd
set_option linter.unusedSimpArgs false
set_option linter.unusedVariables false
set_option linter.unusedSectionVars false
namespace Go.Proofs.YtbdiobhgejmgoaaGreatDoor
open Go.cc Go.Kc Tryz
instance NB:tc prog 5:=Hc func5
instance OB:tc prog 6:=Hc func6
instance PB:tc prog 7:=Hc func7
instance sA:tc prog 11:=Hc func11
instance tA:tc prog 12:=Hc func12
instance Hr:tc prog 13:=Hc func13
instance yk:tc prog 14:=Hc func14
instance zk:tc prog 15:=Hc func15
instance Wv:tc prog 16:=Hc func16
instance uA:tc prog 17:=Hc func17
instance Qi:tc prog 18:=Hc func18
instance Ak:tc prog 19:=Hc func19
instance hl:tc prog 20:=Hc func20
instance vA:tc prog 21:=Hc func21
instance wA:tc prog 22:=Hc func22
instance pt:tc prog 23:=Hc func23
instance xA:tc prog 29:=Hc func29
instance Xv:tc prog 30:=Hc func30
instance Ir:tc prog 31:=Hc func31
instance Jr:tc prog 32:=Hc func32
instance yA:tc prog 33:=Hc func33
instance Kr:tc prog 34:=Hc func34
instance zA:tc prog 35:=Hc func35
instance AA:tc prog 36:=Hc func36
instance ef:tc prog 37:=Hc func37
instance qg:tc prog 38:=Hc func38
instance il:tc prog 39:=Hc func39
instance Lr:tc prog 40:=Hc func40
instance Re:tc prog 41:=Hc func41
instance Mr:tc prog 42:=Hc func42
instance Mj:tc prog 43:=Hc func43
instance Nr:tc prog 44:=Hc func44
instance BA:tc prog 45:=Hc func45
instance Ig:tc prog 46:=Hc func46
instance jl:tc prog 47:=Hc func47
instance uq:tc prog 48:=Hc func48
instance Yv:tc prog 49:=Hc func49
instance ui:tc prog 50:=Hc func50
instance Zv:tc prog 51:=Hc func51
instance Pr:tc prog 52:=Hc func52
instance CA:tc prog 53:=Hc func53
instance aw:tc prog 54:=Hc func54
instance qt:tc prog 60:=Hc func60
instance kl:tc prog 61:=Hc func61
instance tt:tc prog 62:=Hc func62
instance vt:tc prog 63:=Hc func63
instance DA:tc prog 64:=Hc func64
instance EA:tc prog 67:=Hc func67
instance bw:tc prog 68:=Hc func68
instance Nj:tc prog 69:=Hc func69
instance cw:tc prog 70:=Hc func70
instance dw:tc prog 71:=Hc func71
instance Bk:tc prog 72:=Hc func72
instance xt:tc prog 73:=Hc func73
instance FA:tc prog 74:=Hc func74
instance yt:tc prog 75:=Hc func75
instance zt:tc prog 76:=Hc func76
instance At:tc prog 77:=Hc func77
instance GA:tc prog 82:=Hc func82
instance HA:tc prog 83:=Hc func83
instance IA:tc prog 84:=Hc func84
instance JA:tc prog 90:=Hc func90
instance Ri:tc prog 91:=Hc func91
instance Jg:tc prog 92:=Hc func92
instance KA:tc prog 93:=Hc func93
instance vq:tc prog 94:=Hc func94
instance ew:tc prog 95:=Hc func95
instance Dv:tc prog 100:=Hc func100
instance fp:tc prog 105:=Hc func105
instance dt:tc prog 106:=Hc func106
instance xz:tc prog 107:=Hc func107
instance yz:tc prog 117:=Hc func117
instance zz:tc prog 118:=Hc func118
instance bl:tc prog 119:=Hc func119
instance Ev:tc prog 120:=Hc func120
instance Fv:tc prog 121:=Hc func121
instance xr:tc prog 131:=Hc func131
instance Az:tc prog 132:=Hc func132
instance gp:tc prog 137:=Hc func137
instance yr:tc prog 138:=Hc func138
instance lq:tc prog 139:=Hc func139
instance Qh:Wc prog 2 false [.int .i64 0] 1 8:=Tf (z:=.int .i64 0) underlying2
instance Ib:Wc prog 3 false [.int .i64 0] 1 8:=Tf (z:=.int .i64 0) underlying3
instance Uw:Wc prog 4 false [.bool false] 1 1:=Tf (z:=.bool false) underlying4
instance iu:Wc prog 5 false [.int .u8 0] 1 1:=Tf (z:=.int .u8 0) underlying5
instance zc:Wc prog 9 false [S []] 1 16:=Tf (z:=S []) underlying9
instance Nh:Wc prog 22 false [.slice none 0 0] 1 24:=Tf (z:=.slice none 0 0) underlying22
instance Ul:Wc prog 23 false [.int .i64 0] 1 8:=Tf (z:=.int .i64 0) underlying23
instance yc:Wc prog 25 true [.int .i64 0,.int .i64 0] 2 16:=Tf (z:=.agg #[.int .i64 0,.int .i64 0]) underlying25
instance Cd:Wc prog 36 false [.slice none 0 0] 1 24:=Tf (z:=.slice none 0 0) underlying36
instance Ut:Wc prog 40 true [.int .i64 0,.int .i64 0] 2 16:=Tf (z:=.agg #[.int .i64 0,.int .i64 0]) underlying40
instance ao:Wc prog 41 false [.pointer none] 1 8:=Tf (z:=.pointer none) underlying41
instance pC:Wc prog 43 true [.slice none 0 0,.int .i64 0,.int .i64 0] 3 40:=Tf (z:=.agg #[.slice none 0 0,.int .i64 0,.int .i64 0]) underlying43
instance pe:Wc prog 47 true [.int .i64 0,S []] 2 24:=Tf (z:=.agg #[.int .i64 0,S []]) underlying47
instance Tj:Wc prog 48 false [.slice none 0 0] 1 24:=Tf (z:=.slice none 0 0) underlying48
instance dh:Wc prog 49 false [.slice none 0 0] 1 24:=Tf (z:=.slice none 0 0) underlying49
instance hd:Wc prog 51 true [.int .i64 0,S [],.int .i64 0,S [],.int .i64 0,S [],.int .i64 0,.slice none 0 0,.slice none 0 0] 9 128:=Tf (z:=.agg #[.int .i64 0,S [],.int .i64 0,S [],.int .i64 0,S [],.int .i64 0,.slice none 0 0,.slice none 0 0]) underlying51
instance qC:Wc prog 55 true [.slice none 0 0,.int .i64 0,.int .i64 0,.int .i64 0,.int .i64 0] 5 56:=Tf (z:=.agg #[.slice none 0 0,.int .i64 0,.int .i64 0,.int .i64 0,.int .i64 0]) underlying55
instance Ah:Wc prog 58 true [S [],.int .i64 0,S []] 3 40:=Tf (z:=.agg #[S [],.int .i64 0,S []]) underlying58
instance nh:Wc prog 59 false [.slice none 0 0] 1 24:=Tf (z:=.slice none 0 0) underlying59
instance Ab:Wc prog 61 true [.int .i64 0,.int .i64 0,S [],.slice none 0 0] 4 56:=Tf (z:=.agg #[.int .i64 0,.int .i64 0,S [],.slice none 0 0]) underlying61
instance jd:Wc prog 63 true [.int .i64 0,S [],.int .i64 0,.int .i64 0,S [],.slice none 0 0,.slice none 0 0,.slice none 0 0] 8 128:=Tf (z:=.agg #[.int .i64 0,S [],.int .i64 0,.int .i64 0,S [],.slice none 0 0,.slice none 0 0,.slice none 0 0]) underlying63
instance rC:Wc prog 78 true [.int .i64 0] 1 8:=Tf (z:=.agg #[.int .i64 0]) underlying78
instance je:Wc prog 82 true [.int .i64 0,S [],.int .i64 0,.int .i64 0] 4 40:=Tf (z:=.agg #[.int .i64 0,S [],.int .i64 0,.int .i64 0]) underlying82
instance sC:Wc prog 99 true [.int .i64 0] 1 8:=Tf (z:=.agg #[.int .i64 0]) underlying99
instance Mt:Wc prog 112 false [.slice none 0 0] 1 24:=Tf (z:=.slice none 0 0) underlying112
instance Ew:Wc prog 132 false [.map none] 1 8:=Tf (z:=.map none) underlying132
instance an:Wc prog 161 true [.map none,.bool false] 2 16:=Tf (z:=.agg #[.map none,.bool false]) underlying161
theorem tC:prog.eqGuardType prog.depth 25=false:=by kernel_rfl
theorem Vt:prog.eqGuardType prog.depth 47=false:=by kernel_rfl
theorem uC:prog.eqGuardType prog.depth 58=false:=by kernel_rfl
theorem vC:prog.stoodInHeld 25=false:=by kernel_rfl
theorem Wt:prog.stoodInHeld 47=false:=by kernel_rfl
theorem wC:prog.stoodInHeld 58=false:=by kernel_rfl
instance Bz:te prog 161 0 0:=Ae underlying161 rfl rfl rfl Ew rfl
instance Cz:te prog 161 1 1:=Ae underlying161 rfl rfl rfl Uw rfl
instance wq:te prog 25 0 0:=Ae underlying25 rfl rfl rfl Ul rfl
instance LA:te prog 40 0 0:=Ae underlying40 rfl rfl rfl yc rfl
instance xg:te prog 43 0 0:=Ae underlying43 rfl rfl rfl Cd rfl
instance MA:te prog 43 1 1:=Ae underlying43 rfl rfl rfl Ib rfl
instance Rn:te prog 43 2 2:=Ae underlying43 rfl rfl rfl Ib rfl
instance np:te prog 47 0 0:=Ae underlying47 rfl rfl rfl Ib rfl
instance fw:te prog 47 1 1:=Ae underlying47 rfl rfl rfl zc rfl
instance Ug:te prog 51 0 0:=Ae underlying51 rfl rfl rfl Ib rfl
instance Wm:te prog 51 1 1:=Ae underlying51 rfl rfl rfl zc rfl
instance Nl:te prog 51 2 2:=Ae underlying51 rfl rfl rfl pe rfl
instance qp:te prog 51 3 4:=Ae underlying51 rfl rfl rfl pe rfl
instance Xm:te prog 51 4 6:=Ae underlying51 rfl rfl rfl Ib rfl
instance Ck:te prog 51 5 7:=Ae underlying51 rfl rfl rfl Tj rfl
instance Sn:te prog 51 6 8:=Ae underlying51 rfl rfl rfl dh rfl
instance vf:te prog 55 0 0:=Ae underlying55 rfl rfl rfl Cd rfl
instance NA:te prog 55 1 1:=Ae underlying55 rfl rfl rfl Ib rfl
instance Ol:te prog 55 2 2:=Ae underlying55 rfl rfl rfl Ib rfl
instance Bt:te prog 55 3 3:=Ae underlying55 rfl rfl rfl yc rfl
instance gw:te prog 58 0 0:=Ae underlying58 rfl rfl rfl zc rfl
instance iw:te prog 58 1 1:=Ae underlying58 rfl rfl rfl pe rfl
instance kh:te prog 61 0 0:=Ae underlying61 rfl rfl rfl Ib rfl
instance Oj:te prog 61 1 1:=Ae underlying61 rfl rfl rfl Qh rfl
instance Pl:te prog 61 2 2:=Ae underlying61 rfl rfl rfl zc rfl
instance Uh:te prog 61 3 3:=Ae underlying61 rfl rfl rfl nh rfl
instance xf:te prog 63 0 0:=Ae underlying63 rfl rfl rfl Ib rfl
instance Ql:te prog 63 1 1:=Ae underlying63 rfl rfl rfl zc rfl
instance Tn:te prog 63 2 2:=Ae underlying63 rfl rfl rfl Ab rfl
instance Qr:te prog 63 3 6:=Ae underlying63 rfl rfl rfl dh rfl
instance rp:te prog 63 4 7:=Ae underlying63 rfl rfl rfl dh rfl
instance Ct:te prog 78 0 0:=Ae underlying78 rfl rfl rfl Ib rfl
instance Rl:te prog 82 0 0:=Ae underlying82 rfl rfl rfl Ib rfl
instance Vh:te prog 82 1 1:=Ae underlying82 rfl rfl rfl zc rfl
instance Dt:te prog 82 2 2:=Ae underlying82 rfl rfl rfl Qh rfl
instance jw:te prog 82 3 3:=Ae underlying82 rfl rfl rfl Ib rfl
instance Et:te prog 99 0 0:=Ae underlying99 rfl rfl rfl Ib rfl
theorem Fq:fi prog 161 #[(0,1),(1,1)]:=mj underlying161 (fun _=>by kernel_rfl)
theorem Bh:fi prog 25 #[(0,1),(1,1)]:=mj underlying25 (fun _=>by kernel_rfl)
theorem xC:fi prog 40 #[(0,2)]:=mj underlying40 (fun _=>by kernel_rfl)
theorem yC:fi prog 43 #[(0,1),(1,1),(2,1)]:=mj underlying43 (fun _=>by kernel_rfl)
theorem Cp:fi prog 47 #[(0,1),(1,1)]:=mj underlying47 (fun _=>by kernel_rfl)
theorem Kq:fi prog 51 #[(0,1),(1,1),(2,2),(4,2),(6,1),(7,1),(8,1)]:=mj underlying51 (fun _=>by kernel_rfl)
theorem zC:fi prog 55 #[(0,1),(1,1),(2,1),(3,2)]:=mj underlying55 (fun _=>by kernel_rfl)
theorem Mw:fi prog 58 #[(0,1),(1,2)]:=mj underlying58 (fun _=>by kernel_rfl)
theorem Zf:fi prog 61 #[(0,1),(1,1),(2,1),(3,1)]:=mj underlying61 (fun _=>by kernel_rfl)
theorem Uj:fi prog 63 #[(0,1),(1,1),(2,4),(6,1),(7,1)]:=mj underlying63 (fun _=>by kernel_rfl)
theorem BC:fi prog 78 #[(0,1)]:=mj underlying78 (fun _=>by kernel_rfl)
theorem Xr:fi prog 82 #[(0,1),(1,1),(2,1),(3,1)]:=mj underlying82 (fun _=>by kernel_rfl)
theorem CC:fi prog 99 #[(0,1)]:=mj underlying99 (fun _=>by kernel_rfl)
theorem ju:∀ w,(zeroValue 3).run prog w=.ok (.int .i64 0) w:=KB (by kernel_rfl)
end Go.Proofs.YtbdiobhgejmgoaaGreatDoor
namespace Go.Proofs
open Go.Shelf
def Tryz.dx:Go.Shelf.Ren:=⟨fun | 174=>35 | 247=>65 | 245=>66 | 287=>85 | 279=>86 | 280=>87 | 281=>88 | 282=>89 | 321=>101 | 322=>102 | 316=>103 | 171=>57 | 205=>104 | 243=>80 | 246=>97 | 283=>109 | 284=>110 | 285=>111 | 286=>112 | 129=>123 | 317=>122 | 318=>124 | 319=>125 | 320=>126 | 337=>133 | 338=>134 | n=>n,fun | 9=>9 | 3=>3 | 2=>2 | 75=>86 | 85=>87 | 4=>4 | 167=>123 | 5=>5 | 53=>124 | 175=>125 | 46=>127 | 168=>128 | 37=>66 | 0=>0 | 210=>141 | 21=>21 | 127=>106 | 145=>157 | 143=>155 | 171=>147 | 173=>150 | 212=>165 | 51=>166 | 20=>20 | 213=>167 | 232=>177 | 233=>178 | 80=>73 | n=>n,fun | 15=>0 | 16=>1 | 17=>2 | 18=>4 | 19=>5 | n=>n⟩
theorem Tryz.yy:Go.Proofs.LaysC.n174 Tryz.prog Tryz.dx:={
 mixed:=by kernel_rfl
 f129:=Tryz.func123.trans (congrArg some (by kernel_rfl))
 f171:=Tryz.func57.trans (congrArg some (by kernel_rfl))
 f174:=Tryz.func35.trans (congrArg some (by kernel_rfl))
 f205:=Tryz.func104.trans (congrArg some (by kernel_rfl))
 f243:=Tryz.func80.trans (congrArg some (by kernel_rfl))
 f245:=Tryz.func66.trans (congrArg some (by kernel_rfl))
 f246:=Tryz.func97.trans (congrArg some (by kernel_rfl))
 f247:=Tryz.func65.trans (congrArg some (by kernel_rfl))
 f279:=Tryz.func86.trans (congrArg some (by kernel_rfl))
 f280:=Tryz.func87.trans (congrArg some (by kernel_rfl))
 f281:=Tryz.func88.trans (congrArg some (by kernel_rfl))
 f282:=Tryz.func89.trans (congrArg some (by kernel_rfl))
 f283:=Tryz.func109.trans (congrArg some (by kernel_rfl))
 f284:=Tryz.func110.trans (congrArg some (by kernel_rfl))
 f285:=Tryz.func111.trans (congrArg some (by kernel_rfl))
 f286:=Tryz.func112.trans (congrArg some (by kernel_rfl))
 f287:=Tryz.func85.trans (congrArg some (by kernel_rfl))
 f316:=Tryz.func103.trans (congrArg some (by kernel_rfl))
 f317:=Tryz.func122.trans (congrArg some (by kernel_rfl))
 f318:=Tryz.func124.trans (congrArg some (by kernel_rfl))
 f319:=Tryz.func125.trans (congrArg some (by kernel_rfl))
 f320:=Tryz.func126.trans (congrArg some (by kernel_rfl))
 f321:=Tryz.func101.trans (congrArg some (by kernel_rfl))
 f322:=Tryz.func102.trans (congrArg some (by kernel_rfl))
 f337:=Tryz.func133.trans (congrArg some (by kernel_rfl))
 f338:=Tryz.func134.trans (congrArg some (by kernel_rfl))
 t0:=Tryz.underlying0
 a0:=Tryz.isAgg0
 z0:=Tryz.sizeOf0
 v0:=Tryz.zeroValue0
 t2:=Tryz.underlying2
 a2:=Tryz.isAgg2
 z2:=Tryz.sizeOf2
 v2:=Tryz.zeroValue2
 t3:=Tryz.underlying3
 a3:=Tryz.isAgg3
 z3:=Tryz.sizeOf3
 v3:=Tryz.zeroValue3
 t4:=Tryz.underlying4
 a4:=Tryz.isAgg4
 z4:=Tryz.sizeOf4
 v4:=Tryz.zeroValue4
 t5:=Tryz.underlying5
 a5:=Tryz.isAgg5
 z5:=Tryz.sizeOf5
 v5:=Tryz.zeroValue5
 t9:=Tryz.underlying9
 a9:=Tryz.isAgg9
 z9:=Tryz.sizeOf9
 v9:=Tryz.zeroValue9
 t20:=Tryz.underlying20
 a20:=Tryz.isAgg20
 z20:=Tryz.sizeOf20
 v20:=Tryz.zeroValue20
 t21:=Tryz.underlying21
 a21:=Tryz.isAgg21
 z21:=Tryz.sizeOf21
 v21:=Tryz.zeroValue21
 t37:=Tryz.underlying66
 a37:=Tryz.isAgg66
 z37:=Tryz.sizeOf66
 v37:=Tryz.zeroValue66
 t46:=Tryz.underlying127
 a46:=Tryz.isAgg127
 z46:=Tryz.sizeOf127
 v46:=Tryz.zeroValue127
 t51:=Tryz.underlying166
 a51:=Tryz.isAgg166
 z51:=Tryz.sizeOf166
 v51:=Tryz.zeroValue166
 t53:=Tryz.underlying124
 a53:=Tryz.isAgg124
 z53:=Tryz.sizeOf124
 v53:=Tryz.zeroValue124
 t75:=Tryz.underlying86
 a75:=Tryz.isAgg86
 z75:=Tryz.sizeOf86
 v75:=Tryz.zeroValue86
 t85:=Tryz.underlying87
 a85:=Tryz.isAgg87
 z85:=Tryz.sizeOf87
 v85:=Tryz.zeroValue87
 t127:=Tryz.underlying106
 a127:=Tryz.isAgg106
 z127:=Tryz.sizeOf106
 v127:=Tryz.zeroValue106
 t143:=Tryz.underlying155
 a143:=Tryz.isAgg155
 z143:=Tryz.sizeOf155
 v143:=Tryz.zeroValue155
 t145:=Tryz.underlying157
 a145:=Tryz.isAgg157
 z145:=Tryz.sizeOf157
 v145:=Tryz.zeroValue157
 t167:=Tryz.underlying123
 a167:=Tryz.isAgg123
 z167:=Tryz.sizeOf123
 v167:=Tryz.zeroValue123
 t168:=Tryz.underlying128
 a168:=Tryz.isAgg128
 z168:=Tryz.sizeOf128
 v168:=Tryz.zeroValue128
 t171:=Tryz.underlying147
 a171:=Tryz.isAgg147
 z171:=Tryz.sizeOf147
 v171:=Tryz.zeroValue147
 t173:=Tryz.underlying150
 a173:=Tryz.isAgg150
 z173:=Tryz.sizeOf150
 v173:=Tryz.zeroValue150
 t175:=Tryz.underlying125
 a175:=Tryz.isAgg125
 z175:=Tryz.sizeOf125
 v175:=Tryz.zeroValue125
 t210:=Tryz.underlying141
 a210:=Tryz.isAgg141
 z210:=Tryz.sizeOf141
 v210:=Tryz.zeroValue141
 t212:=Tryz.underlying165
 a212:=Tryz.isAgg165
 z212:=Tryz.sizeOf165
 v212:=Tryz.zeroValue165
 t213:=Tryz.underlying167
 a213:=Tryz.isAgg167
 z213:=Tryz.sizeOf167
 t232:=Tryz.underlying177
 a232:=Tryz.isAgg177
 z232:=Tryz.sizeOf177
 v232:=Tryz.zeroValue177
 t233:=Tryz.underlying178
 a233:=Tryz.isAgg178
 z233:=Tryz.sizeOf178
 v233:=Tryz.zeroValue178
 g15:=by kernel_rfl
 g16:=by kernel_rfl
 g17:=by kernel_rfl
 g18:=by kernel_rfl
 g19:=by kernel_rfl
 t80:=Tryz.underlying73
 a80:=Tryz.isAgg73
 z80:=Tryz.sizeOf73
 v80:=Tryz.zeroValue73
 i0:=by kernel_rfl
 i2:=by kernel_rfl
 i3:=by kernel_rfl
 i4:=by kernel_rfl
 i5:=by kernel_rfl
 i9:=by kernel_rfl
 i20:=by kernel_rfl
 i21:=by kernel_rfl
 i37:=by kernel_rfl
 i46:=by kernel_rfl
 i51:=by kernel_rfl
 i53:=by kernel_rfl
 i75:=by kernel_rfl
 i80:=by kernel_rfl
 i85:=by kernel_rfl
 i127:=by kernel_rfl
 i143:=by kernel_rfl
 i145:=by kernel_rfl
 i167:=by kernel_rfl
 i168:=by kernel_rfl
 i171:=by kernel_rfl
 i173:=by kernel_rfl
 i175:=by kernel_rfl
 i210:=by kernel_rfl
 i212:=by kernel_rfl
 i232:=by kernel_rfl
 i233:=by kernel_rfl
 m15:=by kernel_rfl
 m16:=by kernel_rfl
 m17:=by kernel_rfl
 m18:=by kernel_rfl
 m19:=by kernel_rfl
 c0:=by kernel_rfl
 c2:=by kernel_rfl
 c3:=by kernel_rfl
 c4:=by kernel_rfl
 c5:=by kernel_rfl
 c9:=by kernel_rfl
 c20:=by kernel_rfl
 c21:=by kernel_rfl
 c37:=by kernel_rfl
 c46:=by kernel_rfl
 c51:=by kernel_rfl
 c53:=by kernel_rfl
 c75:=by kernel_rfl
 c80:=by kernel_rfl
 c85:=by kernel_rfl
 c127:=by kernel_rfl
 c143:=by kernel_rfl
 c145:=by kernel_rfl
 c167:=by kernel_rfl
 c168:=by kernel_rfl
 c171:=by kernel_rfl
 c173:=by kernel_rfl
 c175:=by kernel_rfl
 c210:=by kernel_rfl
 c212:=by kernel_rfl
 c213:=by kernel_rfl
 c232:=by kernel_rfl
 c233:=by kernel_rfl }
open Go.RowKit in
theorem Tryz.strconv_ParseInt_10_at64_ok (s:ByteArray) (a:s.size≤9223372036854775806) (v:Int) (h:Lib.parseIntB 64 s.data.toList=.ok v) (w:World) :
  Calls Tryz.prog 35 #[.string s,.int .i64 10,.int .i64 64] w fun e w'=>e=.returned (.tuple #[.int .i64 v,.nilIface])∧(w'=w∨∃ t,w'=Lib.bytesWorld w 5 t):=Any.strconv_ParseInt_10_at64_ok Tryz.yy s a v h w
def Tryz.hx:Go.Shelf.Ren:=⟨fun | 144=>82 | 143=>99 | 219=>116 | 217=>127 | 225=>128 | 224=>129 | 267=>130 | 266=>135 | 314=>136 | n=>n,fun | 9=>9 | 4=>4 | 3=>3 | 5=>5 | 46=>127 | 146=>172 | 51=>166 | n=>n,fun | 1=>3 | n=>n⟩
theorem Tryz.Dz:Go.Proofs.Lays.n144 Tryz.prog Tryz.hx:={
 mixed:=by kernel_rfl
 f143:=Tryz.func99.trans (congrArg some (by kernel_rfl))
 f144:=Tryz.func82.trans (congrArg some (by kernel_rfl))
 f217:=Tryz.func127.trans (congrArg some (by kernel_rfl))
 f219:=Tryz.func116.trans (congrArg some (by kernel_rfl))
 f224:=Tryz.func129.trans (congrArg some (by kernel_rfl))
 f225:=Tryz.func128.trans (congrArg some (by kernel_rfl))
 f266:=Tryz.func135.trans (congrArg some (by kernel_rfl))
 f267:=Tryz.func130.trans (congrArg some (by kernel_rfl))
 f314:=Tryz.func136.trans (congrArg some (by kernel_rfl))
 t3:=Tryz.underlying3
 a3:=Tryz.isAgg3
 z3:=Tryz.sizeOf3
 v3:=Tryz.zeroValue3
 t4:=Tryz.underlying4
 a4:=Tryz.isAgg4
 z4:=Tryz.sizeOf4
 v4:=Tryz.zeroValue4
 t5:=Tryz.underlying5
 a5:=Tryz.isAgg5
 z5:=Tryz.sizeOf5
 v5:=Tryz.zeroValue5
 t9:=Tryz.underlying9
 a9:=Tryz.isAgg9
 z9:=Tryz.sizeOf9
 v9:=Tryz.zeroValue9
 t46:=Tryz.underlying127
 a46:=Tryz.isAgg127
 z46:=Tryz.sizeOf127
 v46:=Tryz.zeroValue127
 t51:=Tryz.underlying166
 a51:=Tryz.isAgg166
 z51:=Tryz.sizeOf166
 v51:=Tryz.zeroValue166
 t146:=Tryz.underlying172
 a146:=Tryz.isAgg172
 z146:=Tryz.sizeOf172
 v146:=Tryz.zeroValue172
 g1:=by kernel_rfl }
open Go.RowKit Go.Lib in
theorem Tryz.strings_Contains (s sub:ByteArray) (m:Int) (w:World) (a:s.size<4294967281) (hm:w.cell? ⟨3,0,none⟩=some (.int .i64 m)) :
  Calls Tryz.prog 82 #[.string s,.string sub] w fun e w'=>e=.returned (.bool (Lib.contains s.data.toList sub.data.toList))∧w'=w:=Any.strings_Contains Tryz.Dz s sub m w a hm
end Go.Proofs
namespace Go.Proofs.YtbdiobhgejmgoaaGreatDoor
open Go.cc Go.Kc Go.Y Tryz
def fc:M:=fun w=>∃ m,w.cell? ⟨3,0,none⟩=some (.int .i64 m)
theorem OA {b:M}{I w:World}{c:List yb}{l:List UInt8}{r:Int}(g:Hq l=some r) (d:Ma b I w c) :
  vc prog 35 [S l,.int .i64 10,.int .i64 64] w (fun v w'=>v=.tuple ⟨[.int .i64 r,.nilIface]⟩∧Ma b I w' c):=by
 unfold Hq at g;split at g
 ·rename_i f;cases a:Lib.parseIntB 64 l with
  | ok v =>
   rw [a] at g;obtain rfl:=Option.some.inj g;refine ⟨(strconv_ParseInt_10_at64_ok ⟨⟨l⟩⟩ f v a w).mono fun e w' he=>?_⟩;obtain ⟨rfl,hw⟩:=he;refine ⟨rfl,?_⟩;rcases hw with rfl | ⟨t,rfl⟩
   ·exact d
   ·have h:=Lib.bytesWorld_below w 5 t;exact d.grow ⟨h.os,h.tape,h.output,h.size,fun k i _=>h.block k i⟩
  | _=>rw [a] at g; cases g
 ·cases g
theorem Ez {c:M}{I w:World}{d:List yb}{l sub:List UInt8}{b:Bool}(h:ra fc c) (g:zq l sub=some b) (f:Ma c I w d) :
  vc prog 82 [S l,S sub] w (fun v w'=>v=.bool b∧Ma c I w' d):=by
 unfold zq at g;split at g
 ·rename_i i;obtain rfl:=Option.some.inj g;obtain ⟨m,hm⟩:=h w f.a;refine ⟨(strings_Contains ⟨⟨l⟩⟩ ⟨⟨sub⟩⟩ m w i hm).mono fun e w' he=>?_⟩;obtain ⟨rfl,rfl⟩:=he;exact ⟨rfl,f⟩
 ·cases g
end Go.Proofs.YtbdiobhgejmgoaaGreatDoor
