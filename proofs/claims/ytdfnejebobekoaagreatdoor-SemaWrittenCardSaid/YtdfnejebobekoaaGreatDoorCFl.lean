/- Texts of Fl. -/
import Derived.Test.YtdfnejebobekoaaGreatDoorCXt
import Derived.Test.YtdfnejebobekoaaGreatDoorProg
import Derived.KernelRfl
import Derived.Shelf.Strconv.Itoa0
import Derived.Shelf.Strconv.Itoa1
import Derived.Shelf.LaysM
import Derived.Shelf.Strconv.Itoa2
import Derived.Shelf.Strconv.Itoa3
import Derived.Shelf.Strconv.Itoa4
import Derived.Shelf.Strconv.ParseIntEmpty
import Derived.Shelf.Strconv.Clone
import Derived.Shelf.Strconv.SyntaxError
import Derived.Shelf.LaysC
import Derived.Shelf.Strconv.ToError
import Derived.Shelf.Strconv.Lower
import Derived.Shelf.Strconv.ParseUint10
import Derived.Shelf.Strconv.ParseUint10Empty
import Derived.Shelf.Strconv.ParseUint10Any
import Derived.Shelf.Strconv.ParseInt10
import Derived.Shelf.Strconv.RangeError
import Derived.Shelf.Strconv.ToErrorRange
import Derived.Shelf.Strconv.ParseUintEmpty
import Derived.Shelf.Strconv.ParseUint10b64
import Derived.Shelf.Strconv.ParseUint10b32
import Derived.Shelf.Strconv.ParseUint10b16
import Derived.Shelf.Strconv.ParseUint10b8
import Derived.Shelf.Strconv.ParseUint10At
import Derived.Shelf.Strconv.ParseInt10At64
import Derived.Shelf.Strconv.ParseInt10At32
import Derived.Shelf.Strconv.ParseInt10At16
import Derived.Shelf.Strconv.ParseInt10At8
import Derived.Shelf.Strconv.ParseInt10All
import Derived.Shelf.Strconv.ParseIntPublic10
import Derived.Shelf.Strings.Search1
import Derived.Shelf.Strings.Search2
import Derived.Shelf.Strings.Search3
import Derived.Shelf.Strings.Shaped
import Derived.Shelf.Slices.Turned
import Derived.Test.YtdfnejebobekoaaGreatDoorCMd
import Derived.Test.YtdfnejebobekoaaGreatDoorCXu
import Derived.Lib.LaidTab
import Derived.Lib.SlicesS
import Derived.Lib.Builder
set_option linter.unusedSimpArgs false
set_option linter.unusedVariables false
set_option linter.unusedSectionVars false
namespace Go.Proofs.YtdfnejebobekoaaGreatDoor
open Go.Wk Go.Xt Tryz
instance isfn8:IsFn prog 8:=isf func8
instance isfn9:IsFn prog 9:=isf func9
instance isfn10:IsFn prog 10:=isf func10
instance isfn11:IsFn prog 11:=isf func11
instance isfn20:IsFn prog 20:=isf func20
instance isfn21:IsFn prog 21:=isf func21
instance isfn22:IsFn prog 22:=isf func22
instance isfn23:IsFn prog 23:=isf func23
instance isfn24:IsFn prog 24:=isf func24
instance isfn25:IsFn prog 25:=isf func25
instance isfn26:IsFn prog 26:=isf func26
instance isfn28:IsFn prog 28:=isf func28
instance isfn29:IsFn prog 29:=isf func29
instance isfn45:IsFn prog 45:=isf func45
instance isfn46:IsFn prog 46:=isf func46
instance isfn47:IsFn prog 47:=isf func47
instance isfn48:IsFn prog 48:=isf func48
instance isfn49:IsFn prog 49:=isf func49
instance isfn50:IsFn prog 50:=isf func50
instance isfn51:IsFn prog 51:=isf func51
instance isfn52:IsFn prog 52:=isf func52
instance isfn53:IsFn prog 53:=isf func53
instance isfn54:IsFn prog 54:=isf func54
instance isfn55:IsFn prog 55:=isf func55
instance isfn56:IsFn prog 56:=isf func56
instance isfn57:IsFn prog 57:=isf func57
instance isfn58:IsFn prog 58:=isf func58
instance isfn59:IsFn prog 59:=isf func59
instance isfn60:IsFn prog 60:=isf func60
instance isfn61:IsFn prog 61:=isf func61
instance isfn62:IsFn prog 62:=isf func62
instance isfn63:IsFn prog 63:=isf func63
instance isfn64:IsFn prog 64:=isf func64
instance isfn65:IsFn prog 65:=isf func65
instance isfn66:IsFn prog 66:=isf func66
instance isfn93:IsFn prog 93:=isf func93
instance isfn94:IsFn prog 94:=isf func94
instance isfn95:IsFn prog 95:=isf func95
instance isfn96:IsFn prog 96:=isf func96
instance isfn97:IsFn prog 97:=isf func97
instance isfn98:IsFn prog 98:=isf func98
instance isfn99:IsFn prog 99:=isf func99
instance isfn101:IsFn prog 101:=isf func101
instance isfn102:IsFn prog 102:=isf func102
instance isfn104:IsFn prog 104:=isf func104
instance isfn105:IsFn prog 105:=isf func105
instance isfn108:IsFn prog 108:=isf func108
instance isfn109:IsFn prog 109:=isf func109
instance isfn110:IsFn prog 110:=isf func110
instance isfn111:IsFn prog 111:=isf func111
instance isfn134:IsFn prog 134:=isf func134
instance isfn135:IsFn prog 135:=isf func135
instance isfn136:IsFn prog 136:=isf func136
instance isfn137:IsFn prog 137:=isf func137
instance isfn138:IsFn prog 138:=isf func138
instance isfn139:IsFn prog 139:=isf func139
instance isfn140:IsFn prog 140:=isf func140
instance isfn141:IsFn prog 141:=isf func141
instance isfn142:IsFn prog 142:=isf func142
instance isfn144:IsFn prog 144:=isf func144
instance isfn150:IsFn prog 150:=isf func150
instance isfn151:IsFn prog 151:=isf func151
instance isfn152:IsFn prog 152:=isf func152
instance isfn164:IsFn prog 164:=isf func164
instance isfn165:IsFn prog 165:=isf func165
instance isfn166:IsFn prog 166:=isf func166
instance isfn167:IsFn prog 167:=isf func167
instance isfn173:IsFn prog 173:=isf func173
instance isfn174:IsFn prog 174:=isf func174
instance isfn175:IsFn prog 175:=isf func175
instance isfn180:IsFn prog 180:=isf func180
instance isfn184:IsFn prog 184:=isf func184
instance isfn185:IsFn prog 185:=isf func185
instance isfn186:IsFn prog 186:=isf func186
instance isfn187:IsFn prog 187:=isf func187
instance isfn188:IsFn prog 188:=isf func188
instance isfn194:IsFn prog 194:=isf func194
instance isfn195:IsFn prog 195:=isf func195
instance isfn202:IsFn prog 202:=isf func202
instance isfn203:IsFn prog 203:=isf func203
instance isfn204:IsFn prog 204:=isf func204
instance isfn205:IsFn prog 205:=isf func205
instance isfn208:IsFn prog 208:=isf func208
instance isfn212:IsFn prog 212:=isf func212
instance isfn213:IsFn prog 213:=isf func213
instance ti2:TI prog 2 false [.int .i64 0] 1 8:=tj (z:=.int .i64 0) underlying2
instance ti3:TI prog 3 false [.int .i64 0] 1 8:=tj (z:=.int .i64 0) underlying3
instance ti4:TI prog 4 false [.bool false] 1 1:=tj (z:=.bool false) underlying4
instance ti5:TI prog 5 false [.int .u8 0] 1 1:=tj (z:=.int .u8 0) underlying5
instance ti9:TI prog 9 false [S []] 1 16:=tj (z:=S []) underlying9
instance ti22:TI prog 22 false [.slice none 0 0] 1 24:=tj (z:=.slice none 0 0) underlying22
instance ti24:TI prog 24 false [.int .i64 0] 1 8:=tj (z:=.int .i64 0) underlying24
instance ti26:TI prog 26 true [.int .i64 0,.int .i64 0] 2 16:=tj (z:=.agg #[.int .i64 0,.int .i64 0]) underlying26
instance ti51:TI prog 51 true [S [],S [],S []] 3 48:=tj (z:=.agg #[S [],S [],S []]) underlying51
instance ti53:TI prog 53 false [.pointer none] 1 8:=tj (z:=.pointer none) underlying53
instance ti54:TI prog 54 false [.slice none 0 0] 1 24:=tj (z:=.slice none 0 0) underlying54
instance ti56:TI prog 56 true [.pointer none,.slice none 0 0] 2 32:=tj (z:=.agg #[.pointer none,.slice none 0 0]) underlying56
instance ti58:TI prog 58 true [.pointer none,.slice none 0 0] 2 32:=tj (z:=.agg #[.pointer none,.slice none 0 0]) underlying58
instance ti60:TI prog 60 false [.pointer none] 1 8:=tj (z:=.pointer none) underlying60
instance ti62:TI prog 62 true [.int .i64 0,S []] 2 24:=tj (z:=.agg #[.int .i64 0,S []]) underlying62
instance ti63:TI prog 63 false [.slice none 0 0] 1 24:=tj (z:=.slice none 0 0) underlying63
instance ti64:TI prog 64 false [.slice none 0 0] 1 24:=tj (z:=.slice none 0 0) underlying64
instance ti66:TI prog 66 true [.int .i64 0,S [],.int .i64 0,S [],.int .i64 0,S [],.int .i64 0,.slice none 0 0,.slice none 0 0] 9 128:=tj (z:=.agg #[.int .i64 0,S [],.int .i64 0,S [],.int .i64 0,S [],.int .i64 0,.slice none 0 0,.slice none 0 0]) underlying66
instance ti69:TI prog 69 false [.slice none 0 0] 1 24:=tj (z:=.slice none 0 0) underlying69
instance ti74:TI prog 74 false [.pointer none] 1 8:=tj (z:=.pointer none) underlying74
instance ti76:TI prog 76 true [.slice none 0 0,.int .i64 0,.int .i64 0] 3 40:=tj (z:=.agg #[.slice none 0 0,.int .i64 0,.int .i64 0]) underlying76
instance ti86:TI prog 86 false [.map none] 1 8:=tj (z:=.map none) underlying86
instance ti87:TI prog 87 false [.map none] 1 8:=tj (z:=.map none) underlying87
instance ti97:TI prog 97 true [S [],.int .i64 0,S []] 3 40:=tj (z:=.agg #[S [],.int .i64 0,S []]) underlying97
instance ti109:TI prog 109 false [.slice none 0 0] 1 24:=tj (z:=.slice none 0 0) underlying109
instance ti111:TI prog 111 true [.int .i64 0,.int .i64 0,S [],.slice none 0 0] 4 56:=tj (z:=.agg #[.int .i64 0,.int .i64 0,S [],.slice none 0 0]) underlying111
instance ti113:TI prog 113 true [.int .i64 0,S [],.int .i64 0,.int .i64 0,S [],.slice none 0 0,.slice none 0 0,.slice none 0 0] 8 128:=tj (z:=.agg #[.int .i64 0,S [],.int .i64 0,.int .i64 0,S [],.slice none 0 0,.slice none 0 0,.slice none 0 0]) underlying113
instance ti116:TI prog 116 true [.int .i64 0] 1 8:=tj (z:=.agg #[.int .i64 0]) underlying116
instance ti117:TI prog 117 false [.nilFunc] 1 8:=tj (z:=.nilFunc) underlying117
instance ti118:TI prog 118 false [.pointer none] 1 8:=tj (z:=.pointer none) underlying118
instance ti122:TI prog 122 false [.slice none 0 0] 1 24:=tj (z:=.slice none 0 0) underlying122
instance ti124:TI prog 124 true [.slice none 0 0,.slice none 0 0,.slice none 0 0] 3 72:=tj (z:=.agg #[.slice none 0 0,.slice none 0 0,.slice none 0 0]) underlying124
instance ti126:TI prog 126 false [.pointer none] 1 8:=tj (z:=.pointer none) underlying126
instance ti127:TI prog 127 true [.slice none 0 0,.pointer none] 2 32:=tj (z:=.agg #[.slice none 0 0,.pointer none]) underlying127
instance ti138:TI prog 138 true [.int .i64 0,S [],.int .i64 0,.int .i64 0] 4 40:=tj (z:=.agg #[.int .i64 0,S [],.int .i64 0,.int .i64 0]) underlying138
instance ti185:TI prog 185 true [.slice none 0 0,.map none] 2 32:=tj (z:=.agg #[.slice none 0 0,.map none]) underlying185
instance ti210:TI prog 210 false [.pointer none] 1 8:=tj (z:=.pointer none) underlying210
instance ti211:TI prog 211 false [.map none] 1 8:=tj (z:=.map none) underlying211
instance ti212:TI prog 212 false [.slice none 0 0] 1 24:=tj (z:=.slice none 0 0) underlying212
instance ti214:TI prog 214 true [.pointer none,.pointer none,.slice none 0 0] 3 40:=tj (z:=.agg #[.pointer none,.pointer none,.slice none 0 0]) underlying214
instance ti269:TI prog 269 true [.map none,.bool false] 2 16:=tj (z:=.agg #[.map none,.bool false]) underlying269
theorem eg26:prog.eqGuardType prog.depth 26=false:=by kernel_rfl
theorem eg51:prog.eqGuardType prog.depth 51=false:=by kernel_rfl
theorem eg62:prog.eqGuardType prog.depth 62=false:=by kernel_rfl
theorem eh26:prog.stoodInHeld 26=false:=by kernel_rfl
theorem eh51:prog.stoodInHeld 51=false:=by kernel_rfl
theorem eh62:prog.stoodInHeld 62=false:=by kernel_rfl
instance fa111_0:FA prog 111 0 0:=fa_of underlying111 rfl rfl rfl ti3 rfl
instance fa111_1:FA prog 111 1 1:=fa_of underlying111 rfl rfl rfl ti2 rfl
instance fa111_2:FA prog 111 2 2:=fa_of underlying111 rfl rfl rfl ti9 rfl
instance fa111_3:FA prog 111 3 3:=fa_of underlying111 rfl rfl rfl ti109 rfl
instance fa113_0:FA prog 113 0 0:=fa_of underlying113 rfl rfl rfl ti3 rfl
instance fa113_1:FA prog 113 1 1:=fa_of underlying113 rfl rfl rfl ti9 rfl
instance fa113_2:FA prog 113 2 2:=fa_of underlying113 rfl rfl rfl ti111 rfl
instance fa113_3:FA prog 113 3 6:=fa_of underlying113 rfl rfl rfl ti64 rfl
instance fa113_4:FA prog 113 4 7:=fa_of underlying113 rfl rfl rfl ti64 rfl
instance fa116_0:FA prog 116 0 0:=fa_of underlying116 rfl rfl rfl ti3 rfl
instance fa124_0:FA prog 124 0 0:=fa_of underlying124 rfl rfl rfl ti122 rfl
instance fa124_1:FA prog 124 1 1:=fa_of underlying124 rfl rfl rfl ti122 rfl
instance fa124_2:FA prog 124 2 2:=fa_of underlying124 rfl rfl rfl ti122 rfl
instance fa127_0:FA prog 127 0 0:=fa_of underlying127 rfl rfl rfl ti122 rfl
instance fa127_1:FA prog 127 1 1:=fa_of underlying127 rfl rfl rfl ti126 rfl
instance fa138_0:FA prog 138 0 0:=fa_of underlying138 rfl rfl rfl ti3 rfl
instance fa138_1:FA prog 138 1 1:=fa_of underlying138 rfl rfl rfl ti9 rfl
instance fa138_2:FA prog 138 2 2:=fa_of underlying138 rfl rfl rfl ti2 rfl
instance fa138_3:FA prog 138 3 3:=fa_of underlying138 rfl rfl rfl ti3 rfl
instance fa185_1:FA prog 185 1 1:=fa_of underlying185 rfl rfl rfl ti87 rfl
instance fa214_0:FA prog 214 0 0:=fa_of underlying214 rfl rfl rfl ti118 rfl
instance fa214_1:FA prog 214 1 1:=fa_of underlying214 rfl rfl rfl ti60 rfl
instance fa214_2:FA prog 214 2 2:=fa_of underlying214 rfl rfl rfl ti212 rfl
instance fa269_0:FA prog 269 0 0:=fa_of underlying269 rfl rfl rfl ti86 rfl
instance fa269_1:FA prog 269 1 1:=fa_of underlying269 rfl rfl rfl ti4 rfl
instance fa26_0:FA prog 26 0 0:=fa_of underlying26 rfl rfl rfl ti24 rfl
instance fa51_1:FA prog 51 1 1:=fa_of underlying51 rfl rfl rfl ti9 rfl
instance fa51_2:FA prog 51 2 2:=fa_of underlying51 rfl rfl rfl ti9 rfl
instance fa56_0:FA prog 56 0 0:=fa_of underlying56 rfl rfl rfl ti53 rfl
instance fa56_1:FA prog 56 1 1:=fa_of underlying56 rfl rfl rfl ti54 rfl
instance fa58_0:FA prog 58 0 0:=fa_of underlying58 rfl rfl rfl ti56 rfl
instance fa62_0:FA prog 62 0 0:=fa_of underlying62 rfl rfl rfl ti3 rfl
instance fa62_1:FA prog 62 1 1:=fa_of underlying62 rfl rfl rfl ti9 rfl
instance fa66_0:FA prog 66 0 0:=fa_of underlying66 rfl rfl rfl ti3 rfl
instance fa66_1:FA prog 66 1 1:=fa_of underlying66 rfl rfl rfl ti9 rfl
instance fa66_2:FA prog 66 2 2:=fa_of underlying66 rfl rfl rfl ti62 rfl
instance fa66_3:FA prog 66 3 4:=fa_of underlying66 rfl rfl rfl ti62 rfl
instance fa66_4:FA prog 66 4 6:=fa_of underlying66 rfl rfl rfl ti3 rfl
instance fa66_5:FA prog 66 5 7:=fa_of underlying66 rfl rfl rfl ti63 rfl
instance fa66_6:FA prog 66 6 8:=fa_of underlying66 rfl rfl rfl ti64 rfl
instance fa76_0:FA prog 76 0 0:=fa_of underlying76 rfl rfl rfl ti69 rfl
instance fa76_1:FA prog 76 1 1:=fa_of underlying76 rfl rfl rfl ti3 rfl
instance fa76_2:FA prog 76 2 2:=fa_of underlying76 rfl rfl rfl ti3 rfl
instance fa97_0:FA prog 97 0 0:=fa_of underlying97 rfl rfl rfl ti9 rfl
instance fa97_1:FA prog 97 1 1:=fa_of underlying97 rfl rfl rfl ti62 rfl
theorem pl111:PL prog 111 #[(0,1),(1,1),(2,1),(3,1)]:=pl_of underlying111 (fun _=>by kernel_rfl)
theorem pl113:PL prog 113 #[(0,1),(1,1),(2,4),(6,1),(7,1)]:=pl_of underlying113 (fun _=>by kernel_rfl)
theorem pl116:PL prog 116 #[(0,1)]:=pl_of underlying116 (fun _=>by kernel_rfl)
theorem pl127:PL prog 127 #[(0,1),(1,1)]:=pl_of underlying127 (fun _=>by kernel_rfl)
theorem pl138:PL prog 138 #[(0,1),(1,1),(2,1),(3,1)]:=pl_of underlying138 (fun _=>by kernel_rfl)
theorem pl185:PL prog 185 #[(0,1),(1,1)]:=pl_of underlying185 (fun _=>by kernel_rfl)
theorem pl214:PL prog 214 #[(0,1),(1,1),(2,1)]:=pl_of underlying214 (fun _=>by kernel_rfl)
theorem pl26:PL prog 26 #[(0,1),(1,1)]:=pl_of underlying26 (fun _=>by kernel_rfl)
theorem pl269:PL prog 269 #[(0,1),(1,1)]:=pl_of underlying269 (fun _=>by kernel_rfl)
theorem pl51:PL prog 51 #[(0,1),(1,1),(2,1)]:=pl_of underlying51 (fun _=>by kernel_rfl)
theorem pl58:PL prog 58 #[(0,2)]:=pl_of underlying58 (fun _=>by kernel_rfl)
theorem pl62:PL prog 62 #[(0,1),(1,1)]:=pl_of underlying62 (fun _=>by kernel_rfl)
theorem pl66:PL prog 66 #[(0,1),(1,1),(2,2),(4,2),(6,1),(7,1),(8,1)]:=pl_of underlying66 (fun _=>by kernel_rfl)
theorem pl76:PL prog 76 #[(0,1),(1,1),(2,1)]:=pl_of underlying76 (fun _=>by kernel_rfl)
theorem pl97:PL prog 97 #[(0,1),(1,2)]:=pl_of underlying97 (fun _=>by kernel_rfl)
theorem zv124:∀ w,(zeroValue 124).run prog w=.ok (.agg #[.slice none 0 0,.slice none 0 0,.slice none 0 0]) w:=zv_of (by kernel_rfl)
theorem zv3:∀ w,(zeroValue 3).run prog w=.ok (.int .i64 0) w:=zv_of (by kernel_rfl)
theorem zv60:∀ w,(zeroValue 60).run prog w=.ok (.pointer none) w:=zv_of (by kernel_rfl)
theorem zv62:∀ w,(zeroValue 62).run prog w=.ok (.agg #[.int .i64 0,S []]) w:=zv_of (by kernel_rfl)
theorem zv9:∀ w,(zeroValue 9).run prog w=.ok (S []) w:=zv_of (by kernel_rfl)
end Go.Proofs.YtdfnejebobekoaaGreatDoor
namespace Go.Proofs
open Go.Shelf
def Tryz.laysM171_ren:Go.Shelf.Ren:=⟨fun | 171=>51 | 243=>103 | 246=>143 | 283=>169 | 284=>170 | 285=>171 | 286=>172 | 129=>190 | 317=>189 | 318=>191 | 319=>192 | 320=>193 | 337=>206 | 338=>207 | n=>n,fun | 3=>3 | 9=>9 | 2=>2 | 4=>4 | 171=>241 | 0=>0 | 53=>222 | 37=>54 | 5=>5 | 173=>244 | 212=>262 | 51=>263 | 20=>20 | 213=>264 | 46=>225 | 232=>282 | 233=>283 | n=>n,fun | 17=>2 | 18=>4 | 19=>5 | n=>n⟩
theorem Tryz.laysM171:Go.Proofs.LaysM.n171 Tryz.prog Tryz.laysM171_ren:={
 mixed:=by kernel_rfl
 f129:=Tryz.func190.trans (congrArg some (by kernel_rfl))
 f171:=Tryz.func51.trans (congrArg some (by kernel_rfl))
 f243:=Tryz.func103.trans (congrArg some (by kernel_rfl))
 f246:=Tryz.func143.trans (congrArg some (by kernel_rfl))
 f283:=Tryz.func169.trans (congrArg some (by kernel_rfl))
 f284:=Tryz.func170.trans (congrArg some (by kernel_rfl))
 f285:=Tryz.func171.trans (congrArg some (by kernel_rfl))
 f286:=Tryz.func172.trans (congrArg some (by kernel_rfl))
 f317:=Tryz.func189.trans (congrArg some (by kernel_rfl))
 f318:=Tryz.func191.trans (congrArg some (by kernel_rfl))
 f319:=Tryz.func192.trans (congrArg some (by kernel_rfl))
 f320:=Tryz.func193.trans (congrArg some (by kernel_rfl))
 f337:=Tryz.func206.trans (congrArg some (by kernel_rfl))
 f338:=Tryz.func207.trans (congrArg some (by kernel_rfl))
 t0:=Tryz.underlying0
 a0:=Tryz.isAgg0
 z0:=Tryz.sizeOf0
 v0:=Tryz.zeroValue0
 t2:=Tryz.underlying2
 a2:=Tryz.isAgg2
 z2:=Tryz.sizeOf2
 v2:=Tryz.zeroValue2
 t3:=Tryz.underlying3
 a3:=Tryz.isAgg3
 z3:=Tryz.sizeOf3
 v3:=Tryz.zeroValue3
 t4:=Tryz.underlying4
 a4:=Tryz.isAgg4
 z4:=Tryz.sizeOf4
 v4:=Tryz.zeroValue4
 t5:=Tryz.underlying5
 a5:=Tryz.isAgg5
 z5:=Tryz.sizeOf5
 v5:=Tryz.zeroValue5
 t9:=Tryz.underlying9
 a9:=Tryz.isAgg9
 z9:=Tryz.sizeOf9
 v9:=Tryz.zeroValue9
 t20:=Tryz.underlying20
 a20:=Tryz.isAgg20
 z20:=Tryz.sizeOf20
 v20:=Tryz.zeroValue20
 t37:=Tryz.underlying54
 a37:=Tryz.isAgg54
 z37:=Tryz.sizeOf54
 v37:=Tryz.zeroValue54
 t46:=Tryz.underlying225
 a46:=Tryz.isAgg225
 z46:=Tryz.sizeOf225
 v46:=Tryz.zeroValue225
 t51:=Tryz.underlying263
 a51:=Tryz.isAgg263
 z51:=Tryz.sizeOf263
 v51:=Tryz.zeroValue263
 t53:=Tryz.underlying222
 a53:=Tryz.isAgg222
 z53:=Tryz.sizeOf222
 v53:=Tryz.zeroValue222
 t171:=Tryz.underlying241
 a171:=Tryz.isAgg241
 z171:=Tryz.sizeOf241
 v171:=Tryz.zeroValue241
 t173:=Tryz.underlying244
 a173:=Tryz.isAgg244
 z173:=Tryz.sizeOf244
 v173:=Tryz.zeroValue244
 t212:=Tryz.underlying262
 a212:=Tryz.isAgg262
 z212:=Tryz.sizeOf262
 v212:=Tryz.zeroValue262
 t213:=Tryz.underlying264
 a213:=Tryz.isAgg264
 z213:=Tryz.sizeOf264
 t232:=Tryz.underlying282
 a232:=Tryz.isAgg282
 z232:=Tryz.sizeOf282
 v232:=Tryz.zeroValue282
 t233:=Tryz.underlying283
 a233:=Tryz.isAgg283
 z233:=Tryz.sizeOf283
 v233:=Tryz.zeroValue283
 g17:=by kernel_rfl
 g18:=by kernel_rfl
 g19:=by kernel_rfl
 i0:=by kernel_rfl
 i2:=by kernel_rfl
 i3:=by kernel_rfl
 i4:=by kernel_rfl
 i5:=by kernel_rfl
 i9:=by kernel_rfl
 i20:=by kernel_rfl
 i37:=by kernel_rfl
 i46:=by kernel_rfl
 i51:=by kernel_rfl
 i53:=by kernel_rfl
 i171:=by kernel_rfl
 i173:=by kernel_rfl
 i212:=by kernel_rfl
 i232:=by kernel_rfl
 i233:=by kernel_rfl
 m17:=by kernel_rfl
 m18:=by kernel_rfl
 m19:=by kernel_rfl }
open Go.RowKit Go.Sort Go.Lib in
theorem Tryz.strconv_Itoa (n : Int) (h0 : -9223372036854775808 ≤ n) (h1 : n ≤ 9223372036854775807) (w : World) (htab : Lib.TabIs Tryz.prog w "internal/strconv.uint64pow10" .u64 Lib.pow10Tab) :
  Calls Tryz.prog 51 #[.int .i64 n] w fun e w'=>e=.returned (.string ⟨(Lib.itoa n).toArray⟩)∧∃ k os,w'=grow (w.drewN k) os:=Any.strconv_Itoa Tryz.laysM171 n h0 h1 w htab
def Tryz.laysM173_ren:Go.Shelf.Ren:=⟨fun | 173=>174 | 246=>143 | 283=>169 | 284=>170 | 285=>171 | 286=>172 | 129=>190 | 317=>189 | 318=>191 | 319=>192 | 320=>193 | 337=>206 | 338=>207 | n=>n,fun | 2=>2 | 3=>3 | 9=>9 | 4=>4 | 171=>241 | 0=>0 | 53=>222 | 37=>54 | 5=>5 | 173=>244 | 212=>262 | 51=>263 | 20=>20 | 213=>264 | 46=>225 | 232=>282 | 233=>283 | n=>n,fun | 17=>2 | 18=>4 | 19=>5 | n=>n⟩
theorem Tryz.laysM173:Go.Proofs.LaysM.n173 Tryz.prog Tryz.laysM173_ren:={
 mixed:=by kernel_rfl
 f129:=Tryz.func190.trans (congrArg some (by kernel_rfl))
 f173:=Tryz.func174.trans (congrArg some (by kernel_rfl))
 f246:=Tryz.func143.trans (congrArg some (by kernel_rfl))
 f283:=Tryz.func169.trans (congrArg some (by kernel_rfl))
 f284:=Tryz.func170.trans (congrArg some (by kernel_rfl))
 f285:=Tryz.func171.trans (congrArg some (by kernel_rfl))
 f286:=Tryz.func172.trans (congrArg some (by kernel_rfl))
 f317:=Tryz.func189.trans (congrArg some (by kernel_rfl))
 f318:=Tryz.func191.trans (congrArg some (by kernel_rfl))
 f319:=Tryz.func192.trans (congrArg some (by kernel_rfl))
 f320:=Tryz.func193.trans (congrArg some (by kernel_rfl))
 f337:=Tryz.func206.trans (congrArg some (by kernel_rfl))
 f338:=Tryz.func207.trans (congrArg some (by kernel_rfl))
 t0:=Tryz.underlying0
 a0:=Tryz.isAgg0
 z0:=Tryz.sizeOf0
 v0:=Tryz.zeroValue0
 t2:=Tryz.underlying2
 a2:=Tryz.isAgg2
 z2:=Tryz.sizeOf2
 v2:=Tryz.zeroValue2
 t3:=Tryz.underlying3
 a3:=Tryz.isAgg3
 z3:=Tryz.sizeOf3
 v3:=Tryz.zeroValue3
 t4:=Tryz.underlying4
 a4:=Tryz.isAgg4
 z4:=Tryz.sizeOf4
 v4:=Tryz.zeroValue4
 t5:=Tryz.underlying5
 a5:=Tryz.isAgg5
 z5:=Tryz.sizeOf5
 v5:=Tryz.zeroValue5
 t9:=Tryz.underlying9
 a9:=Tryz.isAgg9
 z9:=Tryz.sizeOf9
 v9:=Tryz.zeroValue9
 t20:=Tryz.underlying20
 a20:=Tryz.isAgg20
 z20:=Tryz.sizeOf20
 v20:=Tryz.zeroValue20
 t37:=Tryz.underlying54
 a37:=Tryz.isAgg54
 z37:=Tryz.sizeOf54
 v37:=Tryz.zeroValue54
 t46:=Tryz.underlying225
 a46:=Tryz.isAgg225
 z46:=Tryz.sizeOf225
 v46:=Tryz.zeroValue225
 t51:=Tryz.underlying263
 a51:=Tryz.isAgg263
 z51:=Tryz.sizeOf263
 v51:=Tryz.zeroValue263
 t53:=Tryz.underlying222
 a53:=Tryz.isAgg222
 z53:=Tryz.sizeOf222
 v53:=Tryz.zeroValue222
 t171:=Tryz.underlying241
 a171:=Tryz.isAgg241
 z171:=Tryz.sizeOf241
 v171:=Tryz.zeroValue241
 t173:=Tryz.underlying244
 a173:=Tryz.isAgg244
 z173:=Tryz.sizeOf244
 v173:=Tryz.zeroValue244
 t212:=Tryz.underlying262
 a212:=Tryz.isAgg262
 z212:=Tryz.sizeOf262
 v212:=Tryz.zeroValue262
 t213:=Tryz.underlying264
 a213:=Tryz.isAgg264
 z213:=Tryz.sizeOf264
 t232:=Tryz.underlying282
 a232:=Tryz.isAgg282
 z232:=Tryz.sizeOf282
 v232:=Tryz.zeroValue282
 t233:=Tryz.underlying283
 a233:=Tryz.isAgg283
 z233:=Tryz.sizeOf283
 v233:=Tryz.zeroValue283
 g17:=by kernel_rfl
 g18:=by kernel_rfl
 g19:=by kernel_rfl
 i0:=by kernel_rfl
 i2:=by kernel_rfl
 i3:=by kernel_rfl
 i4:=by kernel_rfl
 i5:=by kernel_rfl
 i9:=by kernel_rfl
 i20:=by kernel_rfl
 i37:=by kernel_rfl
 i46:=by kernel_rfl
 i51:=by kernel_rfl
 i53:=by kernel_rfl
 i171:=by kernel_rfl
 i173:=by kernel_rfl
 i212:=by kernel_rfl
 i232:=by kernel_rfl
 i233:=by kernel_rfl
 m17:=by kernel_rfl
 m18:=by kernel_rfl
 m19:=by kernel_rfl }
open Go.RowKit Go.Sort Go.Lib in
theorem Tryz.strconv_FormatInt_10 (n : Int) (h0 : -9223372036854775808 ≤ n) (h1 : n ≤ 9223372036854775807) (w : World) (htab : Lib.TabIs Tryz.prog w "internal/strconv.uint64pow10" .u64 Lib.pow10Tab) :
  Calls Tryz.prog 174 #[.int .i64 n,.int .i64 10] w fun e w'=>e=.returned (.string ⟨(Lib.itoa n).toArray⟩)∧∃ k os,w'=grow (w.drewN k) os:=Any.strconv_FormatInt_10 Tryz.laysM173 n h0 h1 w htab
def Tryz.laysC174_ren:Go.Shelf.Ren:=⟨fun | 174=>58 | 247=>106 | 245=>107 | 287=>145 | 279=>146 | 280=>147 | 281=>148 | 282=>149 | 321=>176 | 322=>177 | 316=>178 | 171=>51 | 205=>179 | 243=>103 | 246=>143 | 283=>169 | 284=>170 | 285=>171 | 286=>172 | 129=>190 | 317=>189 | 318=>191 | 319=>192 | 320=>193 | 337=>206 | 338=>207 | n=>n,fun | 9=>9 | 3=>3 | 2=>2 | 75=>142 | 85=>143 | 4=>4 | 167=>221 | 5=>5 | 53=>222 | 175=>223 | 46=>225 | 168=>226 | 37=>54 | 0=>0 | 210=>251 | 21=>21 | 127=>135 | 145=>272 | 143=>270 | 171=>241 | 173=>244 | 212=>262 | 51=>263 | 20=>20 | 213=>264 | 232=>282 | 233=>283 | 80=>68 | n=>n,fun | 15=>0 | 16=>1 | 17=>2 | 18=>4 | 19=>5 | n=>n⟩
theorem Tryz.laysC174:Go.Proofs.LaysC.n174 Tryz.prog Tryz.laysC174_ren:={
 mixed:=by kernel_rfl
 f129:=Tryz.func190.trans (congrArg some (by kernel_rfl))
 f171:=Tryz.func51.trans (congrArg some (by kernel_rfl))
 f174:=Tryz.func58.trans (congrArg some (by kernel_rfl))
 f205:=Tryz.func179.trans (congrArg some (by kernel_rfl))
 f243:=Tryz.func103.trans (congrArg some (by kernel_rfl))
 f245:=Tryz.func107.trans (congrArg some (by kernel_rfl))
 f246:=Tryz.func143.trans (congrArg some (by kernel_rfl))
 f247:=Tryz.func106.trans (congrArg some (by kernel_rfl))
 f279:=Tryz.func146.trans (congrArg some (by kernel_rfl))
 f280:=Tryz.func147.trans (congrArg some (by kernel_rfl))
 f281:=Tryz.func148.trans (congrArg some (by kernel_rfl))
 f282:=Tryz.func149.trans (congrArg some (by kernel_rfl))
 f283:=Tryz.func169.trans (congrArg some (by kernel_rfl))
 f284:=Tryz.func170.trans (congrArg some (by kernel_rfl))
 f285:=Tryz.func171.trans (congrArg some (by kernel_rfl))
 f286:=Tryz.func172.trans (congrArg some (by kernel_rfl))
 f287:=Tryz.func145.trans (congrArg some (by kernel_rfl))
 f316:=Tryz.func178.trans (congrArg some (by kernel_rfl))
 f317:=Tryz.func189.trans (congrArg some (by kernel_rfl))
 f318:=Tryz.func191.trans (congrArg some (by kernel_rfl))
 f319:=Tryz.func192.trans (congrArg some (by kernel_rfl))
 f320:=Tryz.func193.trans (congrArg some (by kernel_rfl))
 f321:=Tryz.func176.trans (congrArg some (by kernel_rfl))
 f322:=Tryz.func177.trans (congrArg some (by kernel_rfl))
 f337:=Tryz.func206.trans (congrArg some (by kernel_rfl))
 f338:=Tryz.func207.trans (congrArg some (by kernel_rfl))
 t0:=Tryz.underlying0
 a0:=Tryz.isAgg0
 z0:=Tryz.sizeOf0
 v0:=Tryz.zeroValue0
 t2:=Tryz.underlying2
 a2:=Tryz.isAgg2
 z2:=Tryz.sizeOf2
 v2:=Tryz.zeroValue2
 t3:=Tryz.underlying3
 a3:=Tryz.isAgg3
 z3:=Tryz.sizeOf3
 v3:=Tryz.zeroValue3
 t4:=Tryz.underlying4
 a4:=Tryz.isAgg4
 z4:=Tryz.sizeOf4
 v4:=Tryz.zeroValue4
 t5:=Tryz.underlying5
 a5:=Tryz.isAgg5
 z5:=Tryz.sizeOf5
 v5:=Tryz.zeroValue5
 t9:=Tryz.underlying9
 a9:=Tryz.isAgg9
 z9:=Tryz.sizeOf9
 v9:=Tryz.zeroValue9
 t20:=Tryz.underlying20
 a20:=Tryz.isAgg20
 z20:=Tryz.sizeOf20
 v20:=Tryz.zeroValue20
 t21:=Tryz.underlying21
 a21:=Tryz.isAgg21
 z21:=Tryz.sizeOf21
 v21:=Tryz.zeroValue21
 t37:=Tryz.underlying54
 a37:=Tryz.isAgg54
 z37:=Tryz.sizeOf54
 v37:=Tryz.zeroValue54
 t46:=Tryz.underlying225
 a46:=Tryz.isAgg225
 z46:=Tryz.sizeOf225
 v46:=Tryz.zeroValue225
 t51:=Tryz.underlying263
 a51:=Tryz.isAgg263
 z51:=Tryz.sizeOf263
 v51:=Tryz.zeroValue263
 t53:=Tryz.underlying222
 a53:=Tryz.isAgg222
 z53:=Tryz.sizeOf222
 v53:=Tryz.zeroValue222
 t75:=Tryz.underlying142
 a75:=Tryz.isAgg142
 z75:=Tryz.sizeOf142
 v75:=Tryz.zeroValue142
 t85:=Tryz.underlying143
 a85:=Tryz.isAgg143
 z85:=Tryz.sizeOf143
 v85:=Tryz.zeroValue143
 t127:=Tryz.underlying135
 a127:=Tryz.isAgg135
 z127:=Tryz.sizeOf135
 v127:=Tryz.zeroValue135
 t143:=Tryz.underlying270
 a143:=Tryz.isAgg270
 z143:=Tryz.sizeOf270
 v143:=Tryz.zeroValue270
 t145:=Tryz.underlying272
 a145:=Tryz.isAgg272
 z145:=Tryz.sizeOf272
 v145:=Tryz.zeroValue272
 t167:=Tryz.underlying221
 a167:=Tryz.isAgg221
 z167:=Tryz.sizeOf221
 v167:=Tryz.zeroValue221
 t168:=Tryz.underlying226
 a168:=Tryz.isAgg226
 z168:=Tryz.sizeOf226
 v168:=Tryz.zeroValue226
 t171:=Tryz.underlying241
 a171:=Tryz.isAgg241
 z171:=Tryz.sizeOf241
 v171:=Tryz.zeroValue241
 t173:=Tryz.underlying244
 a173:=Tryz.isAgg244
 z173:=Tryz.sizeOf244
 v173:=Tryz.zeroValue244
 t175:=Tryz.underlying223
 a175:=Tryz.isAgg223
 z175:=Tryz.sizeOf223
 v175:=Tryz.zeroValue223
 t210:=Tryz.underlying251
 a210:=Tryz.isAgg251
 z210:=Tryz.sizeOf251
 v210:=Tryz.zeroValue251
 t212:=Tryz.underlying262
 a212:=Tryz.isAgg262
 z212:=Tryz.sizeOf262
 v212:=Tryz.zeroValue262
 t213:=Tryz.underlying264
 a213:=Tryz.isAgg264
 z213:=Tryz.sizeOf264
 t232:=Tryz.underlying282
 a232:=Tryz.isAgg282
 z232:=Tryz.sizeOf282
 v232:=Tryz.zeroValue282
 t233:=Tryz.underlying283
 a233:=Tryz.isAgg283
 z233:=Tryz.sizeOf283
 v233:=Tryz.zeroValue283
 g15:=by kernel_rfl
 g16:=by kernel_rfl
 g17:=by kernel_rfl
 g18:=by kernel_rfl
 g19:=by kernel_rfl
 t80:=Tryz.underlying68
 a80:=Tryz.isAgg68
 z80:=Tryz.sizeOf68
 v80:=Tryz.zeroValue68
 i0:=by kernel_rfl
 i2:=by kernel_rfl
 i3:=by kernel_rfl
 i4:=by kernel_rfl
 i5:=by kernel_rfl
 i9:=by kernel_rfl
 i20:=by kernel_rfl
 i21:=by kernel_rfl
 i37:=by kernel_rfl
 i46:=by kernel_rfl
 i51:=by kernel_rfl
 i53:=by kernel_rfl
 i75:=by kernel_rfl
 i80:=by kernel_rfl
 i85:=by kernel_rfl
 i127:=by kernel_rfl
 i143:=by kernel_rfl
 i145:=by kernel_rfl
 i167:=by kernel_rfl
 i168:=by kernel_rfl
 i171:=by kernel_rfl
 i173:=by kernel_rfl
 i175:=by kernel_rfl
 i210:=by kernel_rfl
 i212:=by kernel_rfl
 i232:=by kernel_rfl
 i233:=by kernel_rfl
 m15:=by kernel_rfl
 m16:=by kernel_rfl
 m17:=by kernel_rfl
 m18:=by kernel_rfl
 m19:=by kernel_rfl
 c0:=by kernel_rfl
 c2:=by kernel_rfl
 c3:=by kernel_rfl
 c4:=by kernel_rfl
 c5:=by kernel_rfl
 c9:=by kernel_rfl
 c20:=by kernel_rfl
 c21:=by kernel_rfl
 c37:=by kernel_rfl
 c46:=by kernel_rfl
 c51:=by kernel_rfl
 c53:=by kernel_rfl
 c75:=by kernel_rfl
 c80:=by kernel_rfl
 c85:=by kernel_rfl
 c127:=by kernel_rfl
 c143:=by kernel_rfl
 c145:=by kernel_rfl
 c167:=by kernel_rfl
 c168:=by kernel_rfl
 c171:=by kernel_rfl
 c173:=by kernel_rfl
 c175:=by kernel_rfl
 c210:=by kernel_rfl
 c212:=by kernel_rfl
 c213:=by kernel_rfl
 c232:=by kernel_rfl
 c233:=by kernel_rfl }
open Go.RowKit in
theorem Tryz.strconv_ParseInt_10_at64_ok (s:ByteArray) (hmax:s.size≤9223372036854775806) (v:Int) (h:Lib.parseIntB 64 s.data.toList=.ok v) (w:World) :
  Calls Tryz.prog 58 #[.string s,.int .i64 10,.int .i64 64] w fun e w'=>e=.returned (.tuple #[.int .i64 v,.nilIface])∧(w'=w∨∃ t,w'=Lib.bytesWorld w 5 t):=Any.strconv_ParseInt_10_at64_ok Tryz.laysC174 s hmax v h w
def Tryz.lays144_ren:Go.Shelf.Ren:=⟨fun | 144=>134 | 143=>163 | 219=>183 | 217=>198 | 225=>199 | 224=>200 | 267=>201 | 266=>210 | 314=>211 | n=>n,fun | 9=>9 | 4=>4 | 3=>3 | 5=>5 | 46=>225 | 146=>280 | 51=>263 | n=>n,fun | 1=>3 | n=>n⟩
theorem Tryz.lays144:Go.Proofs.Lays.n144 Tryz.prog Tryz.lays144_ren:={
 mixed:=by kernel_rfl
 f143:=Tryz.func163.trans (congrArg some (by kernel_rfl))
 f144:=Tryz.func134.trans (congrArg some (by kernel_rfl))
 f217:=Tryz.func198.trans (congrArg some (by kernel_rfl))
 f219:=Tryz.func183.trans (congrArg some (by kernel_rfl))
 f224:=Tryz.func200.trans (congrArg some (by kernel_rfl))
 f225:=Tryz.func199.trans (congrArg some (by kernel_rfl))
 f266:=Tryz.func210.trans (congrArg some (by kernel_rfl))
 f267:=Tryz.func201.trans (congrArg some (by kernel_rfl))
 f314:=Tryz.func211.trans (congrArg some (by kernel_rfl))
 t3:=Tryz.underlying3
 a3:=Tryz.isAgg3
 z3:=Tryz.sizeOf3
 v3:=Tryz.zeroValue3
 t4:=Tryz.underlying4
 a4:=Tryz.isAgg4
 z4:=Tryz.sizeOf4
 v4:=Tryz.zeroValue4
 t5:=Tryz.underlying5
 a5:=Tryz.isAgg5
 z5:=Tryz.sizeOf5
 v5:=Tryz.zeroValue5
 t9:=Tryz.underlying9
 a9:=Tryz.isAgg9
 z9:=Tryz.sizeOf9
 v9:=Tryz.zeroValue9
 t46:=Tryz.underlying225
 a46:=Tryz.isAgg225
 z46:=Tryz.sizeOf225
 v46:=Tryz.zeroValue225
 t51:=Tryz.underlying263
 a51:=Tryz.isAgg263
 z51:=Tryz.sizeOf263
 v51:=Tryz.zeroValue263
 t146:=Tryz.underlying280
 a146:=Tryz.isAgg280
 z146:=Tryz.sizeOf280
 v146:=Tryz.zeroValue280
 g1:=by kernel_rfl }
open Go.RowKit Go.Lib in
theorem Tryz.strings_Contains (s sub:ByteArray) (m:Int) (w:World) (hs:s.size<4294967281) (hm:w.cell? ⟨3,0,none⟩=some (.int .i64 m)) :
  Calls Tryz.prog 134 #[.string s,.string sub] w fun e w'=>e=.returned (.bool (Lib.contains s.data.toList sub.data.toList))∧w'=w:=Any.strings_Contains Tryz.lays144 s sub m w hs hm
def Tryz.lays110_ren:Go.Shelf.Ren:=⟨fun | 110=>48 | 109=>100 | n=>n,fun | 31=>122 | 9=>9 | 4=>4 | 3=>3 | 0=>0 | n=>n,fun | n=>n⟩
theorem Tryz.lays110:Go.Proofs.Lays.n110 Tryz.prog Tryz.lays110_ren:={
 mixed:=by kernel_rfl
 f109:=Tryz.func100.trans (congrArg some (by kernel_rfl))
 f110:=Tryz.func48.trans (congrArg some (by kernel_rfl))
 t0:=Tryz.underlying0
 a0:=Tryz.isAgg0
 z0:=Tryz.sizeOf0
 v0:=Tryz.zeroValue0
 t3:=Tryz.underlying3
 a3:=Tryz.isAgg3
 z3:=Tryz.sizeOf3
 v3:=Tryz.zeroValue3
 t4:=Tryz.underlying4
 a4:=Tryz.isAgg4
 z4:=Tryz.sizeOf4
 v4:=Tryz.zeroValue4
 t9:=Tryz.underlying9
 a9:=Tryz.isAgg9
 z9:=Tryz.sizeOf9
 v9:=Tryz.zeroValue9
 t31:=Tryz.underlying122
 a31:=Tryz.isAgg122
 z31:=Tryz.sizeOf122
 v31:=Tryz.zeroValue122 }
open Go.Lib in
theorem Tryz.slices_Contains_string (b off n c:Nat) (zs:List ByteArray) (x:ByteArray) (w:World) (hz:n≤zs.length) (hbig:n≤9223372036854775807) (hc:∀ j,j<zs.length→w.cell? ⟨b,off+j,none⟩=some (.string (zs.getD j ByteArray.empty))) :
  Calls Tryz.prog 48 #[.slice (some ⟨b,off,none⟩) n c,.string x] w fun e w'=>e=.returned (.bool (Lib.containsS (zs.take n) x))∧w'=w:=Any.slices_Contains_string Tryz.lays110 b off n c zs x w hz hbig hc
open Go.Lib in
theorem Tryz.slices_Contains_string_empty (a:Option Addr) (c:Nat) (x:ByteArray) (w:World) :
  Calls Tryz.prog 48 #[.slice a 0 c,.string x] w fun e w'=>e=.returned (.bool false)∧w'=w:=Any.slices_Contains_string_empty Tryz.lays110 a c x w
end Go.Proofs
namespace Go.Proofs.YtdfnejebobekoaaGreatDoor
open Go.Wk Go.Xt Go.Y Tryz
def Gm : M := fun w => (∃ m, w.cell? ⟨3, 0, none⟩ = some (.int .i64 m)) ∧ Lib.TabIs prog w "internal/strconv.uint64pow10" .u64 Lib.pow10Tab
theorem pint_w {μ0:M} {w0 w:World} {rsF:List Res} {l:List UInt8} {r:Int} (g:pint l=some r) (hS:Sq μ0 w0 w rsF) :
  CallsV prog 58 [S l,.int .i64 10,.int .i64 64] w (fun v w'=>v=.tuple ⟨[.int .i64 r,.nilIface]⟩∧Sq μ0 w0 w' rsF):=by
 unfold pint at g
 split at g
 ·rename_i hl
  cases hp:Lib.parseIntB 64 l with
  | ok v =>
   rw [hp] at g
   obtain rfl:=Option.some.inj g
   refine ⟨(strconv_ParseInt_10_at64_ok ⟨⟨l⟩⟩ hl v hp w).mono fun e w' he=>?_⟩
   obtain ⟨rfl,hw⟩:=he
   refine ⟨rfl,?_⟩
   rcases hw with rfl | ⟨t,rfl⟩
   ·exact hS
   ·have h:=Lib.bytesWorld_below w 5 t
    exact hS.grow ⟨h.os,h.tape,h.output,h.size,fun k hk _=>h.block k hk⟩
  | _=>rw [hp] at g; cases g
 ·cases g
theorem scont_w {μ0:M} {w0 w:World} {rsF:List Res} {l sub:List UInt8} {b:Bool} (hg:Le Gm μ0) (g:scont l sub=some b) (hS:Sq μ0 w0 w rsF) :
  CallsV prog 134 [S l,S sub] w (fun v w'=>v=.bool b∧Sq μ0 w0 w' rsF):=by
 unfold scont at g
 split at g
 ·rename_i hl
  obtain rfl:=Option.some.inj g
  obtain ⟨⟨m,hm⟩,-⟩:=hg w hS.a
  refine ⟨(strings_Contains ⟨⟨l⟩⟩ ⟨⟨sub⟩⟩ m w hl hm).mono fun e w' he=>?_⟩
  obtain ⟨rfl,rfl⟩:=he
  exact ⟨rfl,hS⟩
 ·cases g
theorem grow_growN (w:World) (n:Nat) (os:Array Obj):Grow w (Go.Sort.grow (w.drewN n) os):=⟨rfl,rfl,rfl,by simp [Go.Sort.grow],fun k hk _=>by
 simp only [Go.Sort.grow,World.heap_drewN]
 exact Array.getElem?_append_left hk⟩
theorem fmt_w {μ0:M} {w0 w:World} {rsF:List Res} {n:Int} {r:List UInt8} (hg:Le Gm μ0) (g:fmt10 n=some r) (hS:Sq μ0 w0 w rsF) :
  CallsV prog 174 [.int .i64 n,.int .i64 10] w (fun v w'=>v=S r∧Sq μ0 w0 w' rsF):=by
 unfold fmt10 at g
 split at g
 ·rename_i h
  obtain rfl:=Option.some.inj g
  obtain ⟨-,ht⟩:=hg w hS.a
  refine ⟨(strconv_FormatInt_10 n h.1 h.2 w ht).mono fun e w' he=>?_⟩
  obtain ⟨rfl,k,os,rfl⟩:=he
  exact ⟨rfl,hS.grow (grow_growN w k os)⟩
 ·cases g
theorem itoa_w {μ0:M} {w0 w:World} {rsF:List Res} {n:Int} {r:List UInt8} (hg:Le Gm μ0) (g:fmt10 n=some r) (hS:Sq μ0 w0 w rsF) :
  CallsV prog 51 [.int .i64 n] w (fun v w'=>v=S r∧Sq μ0 w0 w' rsF):=by
 unfold fmt10 at g
 split at g
 ·rename_i h
  obtain rfl:=Option.some.inj g
  obtain ⟨-,ht⟩:=hg w hS.a
  refine ⟨(strconv_Itoa n h.1 h.2 w ht).mono fun e w' he=>?_⟩
  obtain ⟨rfl,k,os,rfl⟩:=he
  exact ⟨rfl,hS.grow (grow_growN w k os)⟩
 ·cases g
end Go.Proofs.YtdfnejebobekoaaGreatDoor
namespace Go.Proofs.YtdfnejebobekoaaGreatDoor
open Go.Wk Go.Xt Go.Y Go.RowKit Tryz
section
variable {μ μ0:M} {w0 w:World} {rsF rs:List Res}
def Cells1 (w:World) (v:Value) (vs:List Value):Prop:=(vs=[]∧∃ a c,v=.slice a 0 c)∨∃ b o c,v=.slice (some ⟨b,o,none⟩) vs.length c∧vs.length≤9223372036854775807∧∀ j y,vs[j]?=some y→w.cell? ⟨b,o+j,none⟩=some y
theorem rw_cells {α:Type} [Mo α] {f:α→Value} (hf:∀ (μ:M) (l:List Value) (x:α),Mo.cs μ l x→l=[f x]):∀ {l:List α} {cells:List Value},Rw μ cells l→cells=l.map f
 | [],cells,h=>by rw [Rw] at h; simp [h]
 | x::l,cells,h=>by
  rw [Rw] at h
  obtain ⟨cs,t,rfl,h1,h2⟩:=h
  rw [hf _ _ _ h1,rw_cells hf h2]; rfl
theorem cells_row {α:Type} [Mo α] {f:α→Value} (hf:∀ (μ:M) (l:List Value) (x:α),Mo.cs μ l x→l=[f x]) {v:Value} {T:TypeId} {l:List α} {cells:List Value} (h:Row w v T 1 l.length cells) (hr:Rw μ cells l):Cells1 w v (l.map f):=by
 have e:=rw_cells hf hr
 subst e
 rcases h.2 with ⟨rfl,h2⟩ | ⟨g,o,cap,cur,rfl,hg,h1,h2,h3,h4⟩
 ·exact .inl ⟨by rw [List.length_eq_zero_iff.1 h2]; rfl,none,0,rfl⟩
 ·refine .inr ⟨g,o,cap,by simp,by simp; exact Nat.le_trans h1 (Nat.le_trans h2 (by decide)),fun j y hj=>?_⟩
  rw [cell_of_row w g (o+j) cur T (0,0) hg]
  rw [← h4,List.getElem?_take] at hj
  split at hj
  ·rw [List.getElem?_drop] at hj; simpa using hj
  ·cases hj
theorem cells_sl {α:Type} [Mo α] {f:α→Value} (hf:∀ (μ:M) (l:List Value) (x:α),Mo.cs μ l x→l=[f x]) (hsz:Mo.sz α=1) {a:Option Addr} {c:Nat} {l:List α} (h:Sl μ a c l) (hw:μ w):Cells1 w (.slice a l.length c) (l.map f):=by
 rcases h.el with rfl | ⟨b,o,rfl,gg,hel⟩
 ·exact .inl ⟨rfl,a,c,rfl⟩
 ·refine .inr ⟨b,o,c,by simp,by simp; exact Sl.len h,fun j y hj=>?_⟩
  simp only [List.getElem?_map,Option.map_eq_some_iff] at hj
  obtain ⟨x,hx,rfl⟩:=hj
  obtain ⟨h1,h2⟩:=hel j x hx
  rw [hf _ _ _ h2,hsz] at h1
  have:=h1 w hw 0 _ rfl
  simpa using this
theorem str1 (μ:M) (l:List Value) (x:List UInt8) (h:Mo.cs μ l x):l=[S x]:=h
theorem contains_s_c {v:Value} {l:List (List UInt8)} {x:List UInt8} (h:Cells1 w v (l.map S)):CallsV prog 48 [v,S x] w (fun v w'=>v=.bool (l.contains x)∧w'=w):=by
 rcases h with ⟨h1,a,c,rfl⟩ | ⟨b,o,c,rfl,hl,hc⟩
 ·obtain rfl:l=[]:=List.map_eq_nil_iff.1 h1
  exact ⟨(slices_Contains_string_empty a c ⟨⟨x⟩⟩ w).mono fun e w' he=>by
   obtain ⟨rfl,rfl⟩:=he
   exact ⟨rfl,rfl⟩⟩
 ·refine ⟨(slices_Contains_string b o (l.map S).length c (l.map fun y=>⟨⟨y⟩⟩) ⟨⟨x⟩⟩ w (by simp) hl ?_).mono fun e w' he=>?_⟩
  ·intro j hj
   have hj2:j<l.length:=by simpa using hj
   rw [hc j (S l[j]) (by simp [hj2])]
   simp [List.getElem?_eq_getElem hj2,S]
  ·obtain ⟨rfl,rfl⟩:=he
   refine ⟨?_,rfl⟩
   congr 1
   rw [List.take_of_length_le (by simp),Bool.eq_iff_iff,Lib.containsS_iff,List.contains_iff_mem]
   constructor
   ·intro hm
    obtain ⟨y,hy,e⟩:=List.mem_map.1 hm
    have e2:y=x:=congrArg (fun b:ByteArray=>b.data.toList) e
    rwa [← e2]
   ·exact fun hm=>List.mem_map.2 ⟨x,hm,rfl⟩
end
end Go.Proofs.YtdfnejebobekoaaGreatDoor
set_option maxRecDepth 100000
namespace Go.Proofs.YtdfnejebobekoaaGreatDoor
open Go.Wk Go.Xt Go.RowKit
section
variable {P:Program} {Q:Exit→Act→World→Prop} {K:List Value→List Deferred→World→Prop} {fr fr':List Value} {ds:List Deferred} {w:World} {dst:Option Tmp} {ty:TypeId} {pos:String} {after:Array Edge} {g:Option (Nat×Bool)}
theorem s_neqp {x y:Operand} {t t' te:TypeId} {j:TypeInfo} {a:Addr} (hp:P.underlying t=some (.pointer te)) (hte:P.info? te=some j)
  (hx:Ev fr x (.pointer (some a))) (hy:Ev fr y (.pointer (some a))) (hd:Dt fr dst (.bool false) fr') (h:K fr' ds w):OW P (Oper.mk dst (.binOp .neq t x y t') ty pos after g) fr ds w K Q:=by
 refine op_v (w':=w) ?_ hd h
 have e1:=hx ds
 have e2:=hy ds
 have e3:=Lib.run_neq_ptr_same (P:=P) w a hp hte
 simp [execOp,e1,e2,eqGuard,e3]
theorem s_nilp {x:Operand} {t t' te:TypeId} {a:Addr} (hp:P.underlying t=some (.pointer te))
  (hx:Ev fr x (.pointer (some a))) (hd:Dt fr dst (.bool false) fr') (h:K fr' ds w):OW P (Oper.mk dst (.binOp .eql t x (.const (.pointer none)) t') ty pos after g) fr ds w K Q:=by
 refine op_v (w':=w) ?_ hd h
 have e1:=hx ds
 have e2:(F fr ds).eval (.const (.pointer none))=.pointer none:=rfl
 have e3:∀ d:Nat,(Op.equalIn (d+1) t (.pointer (some a)) (.pointer none)).run P w=.ok false w:=fun d=>by
  simp [Op.equalIn,run_underlying hp]
 have e4:(Op.equalIn Op.maxDepth t (.pointer (some a)) (.pointer none)).run P w=.ok false w:=e3 9999
 simp [execOp,e1,e2,eqGuard,binOp,Op.equal,e4]
theorem s_toun {x:Operand} {src dt_ t e:TypeId} {j:TypeInfo} {cells:Nat} {a:Addr} (hs:P.underlying src=some (.pointer t)) (hu:P.underlying dt_=some .unsafePointer) (ht:P.info? t=some j) (hj:j.size≠0)
  (hsh:w.shape? a.block=some (e,cells)) (hoff:a.off<cells) (hx:Ev fr x (.pointer (some a))) (hd:Dt fr dst (.pointer (some a)) fr') (h:K fr' ds w):OW P (Oper.mk dst (.convert src dt_ x) ty pos after g) fr ds w K Q:=by
 refine op_v (w':=w) ?_ hd h
 have e1:=hx ds
 have e3:=Lib.run_to_unsafe (P:=P) w a hs hu ht hj hsh hoff
 simp [execOp,e1,e3]
theorem s_ofun {x:Operand} {src dt_ u e:TypeId} {j:TypeInfo} {cells:Nat} {a:Addr} (hs:P.underlying src=some .unsafePointer) (hu:P.underlying dt_=some (.pointer u)) (hi:P.info? u=some j)
  (hsh:w.shape? a.block=some (e,cells)) (hlies:liesAt P P.depth e (cells / P.cellsOf e) a.off u 1=true) (hx:Ev fr x (.pointer (some a))) (hd:Dt fr dst (.pointer (some a)) fr') (h:K fr' ds w):OW P (Oper.mk dst (.convert src dt_ x) ty pos after g) fr ds w K Q:=by
 refine op_v (w':=w) ?_ hd h
 have e1:=hx ds
 have e3:=Lib.run_from_unsafe (P:=P) w a hs hu hi hsh hlies
 simp [execOp,e1,e3]
theorem s_noesc {f x : Operand} {k : FuncId} {fn : Func} {v : Value} {tys : Array TypeId} (hf : P.funcs[k]? = some fn) (hname : (fn.name == "runtime.NumGoroutine") = false) (hb : fn.body.isNone = true) (hn : Extern.findNext fn = none) (he : Extern.find fn = some Extern.AbiNoEscape.same)
  (hfo:Ev fr f (.func (.func k) #[] #[])) (hx:Ev fr x v) (hd:Dt fr dst v fr') (h:K fr' ds w):OW P (Oper.mk dst (.call { callee:=.value f,args:=⟨[x]⟩,argTypes:=tys }) ty pos after g) fr ds w K Q:=by
 refine op_v (w':=w) ?_ hd h
 have e1:=hfo ds
 have e2:=hx ds
 have e3:=run_callFunc_extern hf hname hb hn he #[v] w
 rw [Lib.run_noEscape] at e3
 simp [execOp,resolve,invoke,Deferred.ofValue,e1,e2,e3,Result.andThen]
end
section
variable {μ0:M} {w0 w:World} {rsF:List Res}
theorem sizeB:∃ j,Tryz.prog.info? 56=some j∧j.size≠0:=by
 have h:(Tryz.prog.info? 56).map (·.size)=some 2:=by kernel_rfl
 obtain ⟨j,h1,h2⟩:=Option.map_eq_some_iff.1 h
 exact ⟨j,h1,by rw [h2]; decide⟩
theorem liesB:liesAt Tryz.prog Tryz.prog.depth 58 (2 / Tryz.prog.cellsOf 58) 0 56 1=true:=by kernel_rfl
theorem bw_check {b:Nat} {av bv:Value} (hb:Bp μ0 b av) (hS:Sq μ0 w0 w (.blk b 58 [av,bv]::rsF)) :
  CallsV Tryz.prog 142 [.pointer (some ⟨b,0,none⟩)] w (fun v w'=>v=.tuple ⟨[]⟩∧Sq μ0 w0 w' (.blk b 58 [.pointer (some ⟨b,0,none⟩),bv]::rsF)):=by
 obtain ⟨j,hj,hj0⟩:=sizeB
 refine enter Tryz.func142 rfl (frm:=[_,_,_,_,_,_,_,_,_,_,_,_,_,_,_,_,_,_,_,_]) rfl ?_
 refine cseq ?_
 refine creg ?_
 refine wl (s_move (et d0) (dt p2) ?_)
 refine wl (s_nilck (et d2) (dt p3) ?_)
 refine wl (s_fa fa56_0 (et d3) rfl (dt p4) ?_)
 refine wl (s_load ti53 (et d4) ((hS.blk d0).cell d0) (dt p5) ?_)
 rcases hb with rfl | rfl
 ·refine wl (s_nilpeql Tryz.underlying53 (et d5) (dt p6) ?_)
  refine wnil ?_
  refine xn ?_
  refine cift (et d6) ?_
  refine creg ?_
  refine wl (s_move (et d0) (dt p7) ?_)
  refine wl (s_move (et d0) (dt p8) ?_)
  have hsh:w.shape? b=some (58,2):=by
   have h2:w.heap[b]?=some (.cells ⟨[.pointer none,bv]⟩ 58 (0,0)):=hS.get d0
   simp [World.shape?,h2]
  refine wl (s_toun Tryz.underlying53 Tryz.underlying239 hj hj0 hsh (Nat.zero_lt_succ 1) (et d8) (dt p9) ?_)
  refine wl (s_noesc Tryz.func168 (by kernel_rfl) (by kernel_rfl) (by kernel_rfl) (by kernel_rfl) (fun _=>rfl) (et d9) (dt (q10 p0)) ?_)
  refine wl (s_ofun Tryz.underlying239 Tryz.underlying53 hj hsh liesB (et (k10 d0)) (dt (q10 p1)) ?_)
  refine wl (s_nilck (et d7) (dt (q10 p2)) ?_)
  refine wl (s_fa fa56_0 (et (k10 d2)) rfl (dt (q10 p3)) ?_)
  refine wl (s_store1 ti53 (et (k10 d3)) (et (k10 d1)) rfl hS d0 p0 rfl p0 dn ?_)
  clear hS; intro w1 hS
  refine wnil ?_
  refine end0 rfl ?_
  exact ⟨rfl,hS⟩
 ·refine wl (s_nilp Tryz.underlying53 (et d5) (dt p6) ?_)
  refine wnil ?_
  refine xn ?_
  refine ciff (et d6) ?_
  refine cseq ?_
  refine creg ?_
  refine wl (s_move (et d0) (dt (q10 p4)) ?_)
  refine wl (s_nilck (et (k10 d4)) (dt (q10 p5)) ?_)
  refine wl (s_fa fa56_0 (et (k10 d5)) rfl (dt (q10 p6)) ?_)
  refine wl (s_load ti53 (et (k10 d6)) ((hS.blk d0).cell d0) (dt (q10 p7)) ?_)
  refine wl (s_move (et d0) (dt (q10 p8)) ?_)
  refine wl (s_neqp Tryz.underlying53 hj (et (k10 d7)) (et (k10 d8)) (dt (q10 p9)) ?_)
  refine wnil ?_
  refine xn ?_
  refine ciff (et (k10 d9)) ?_
  refine cskip ?_
  refine end0 rfl ?_
  exact ⟨rfl,hS⟩
theorem bw_string {b:Nat} {av bv:Value} {l:List UInt8} {cs:List Value} (hm:Rw μ0 cs l) (hS:Sq μ0 w0 w (.blk b 58 [av,bv]::.row bv 5 1 l.length cs::rsF)) :
  CallsV Tryz.prog 24 [.pointer (some ⟨b,0,none⟩)] w (fun v w'=>∃ (μ':M),v=S l∧Le μ0 μ'∧Sq μ' w0 w' rsF):=by
 obtain ⟨a,cap,rfl⟩:=Row.shape (hS.get d1)
 refine enter Tryz.func24 rfl (frm:=[_,_,_,_,_,_,_,_,_,_,_,_,_,_]) rfl ?_
 refine cseq ?_
 refine creg ?_
 refine wl (s_assign ec (dt p2) ?_)
 refine wnil ?_
 refine xn ?_
 refine cseq ?_
 refine cdraw (by kernel_rfl) rfl fun w1 hh_ ho_ ht_ hu_=>?_
 replace hS:=hS.drew hh_ ho_ ht_ hu_
 refine sf_start ?_
 refine sf_pu (i:=0) [0,1,2,3,4,10,11] (blind_of fun _ _ _ h=>h.2) rfl rfl rfl (u_move (et d0)) p3 ?_
 refine sf_pu (i:=1) [1,2,3,4,10,11] (blind_of fun _ _ _ h=>h.2) rfl rfl rfl (u_nilck (et d3)) p4 ?_
 refine sf_pu (i:=2) [2,3,4,10,11] (blind_of fun _ _ _ h=>h.2) rfl rfl rfl (u_fa fa56_1 (et d4) rfl) p5 ?_
 refine sf_pu (i:=5) [5,6,7,8,9,10,11] (blind_of fun _ _ _ h=>h.2) rfl rfl rfl (u_move (et d0)) p8 ?_
 refine sf_pu (i:=6) [6,7,8,9,10,11] (blind_of fun _ _ _ h=>h.2) rfl rfl rfl (u_nilck (et d8)) p9 ?_
 refine sf_pu (i:=7) [7,8,9,10,11] (blind_of fun _ _ _ h=>h.2) rfl rfl rfl (u_fa fa56_1 (et d9) rfl) (q10 p0) ?_
 refine sf_rd (i:=3) [3,4,10,11] (blind_of fun _ _ _ h=>h.2) rfl rfl rfl (u_load ti54 (et d5) ((hS.blk d0).cell d1)) p6 ?_
 refine sf_rd (i:=8) [8,9,10,11] (blind_of fun _ _ _ h=>h.2) rfl rfl rfl (u_load ti54 (et (k10 d0)) ((hS.blk d0).cell d1)) (q10 p1) ?_
 refine sf_pu (i:=9) [9,10,11] (blind_of fun _ _ _ h=>h.2) rfl rfl rfl (u_lensl Tryz.underlying54 (et (k10 d1))) (q10 p2) ?_
 refine sf1 rfl rfl rfl rfl (wn0 rfl) (s_usd Tryz.underlying135 rfl (et d6) hS d1 ?_)
 clear hS; intro w2 p hp hS; refine pu (dt p7) ?_
 refine ⟨(Mons.s (u_load ti54 (et (k10 d0)) ((hS.blk d0).cell d1)) Mons.z),?_⟩
 refine sf1 rfl rfl rfl rfl (wn0 rfl) (s_ustr hp Tryz.underlying135 (by kernel_rfl) rfl (et d7) (et (k10 d2)) hS d1 hm ?_)
 clear hS; intro w3 r' rs_ hp_ hS; cases (show _=rs_ from hp_); refine pu (dt (q10 p3)) ?_
 refine ⟨Mons.z,?_⟩
 refine sf_pu (i:=11) [11] (blind_of fun _ _ _ h=>h.2) rfl rfl rfl (u_assign (et (k10 d3))) p2 ?_
 refine sf_nil ?_
 refine xn ?_
 refine cret ?_
 refine ret1 rfl d2 ?_
 exact ⟨_,rfl,Le.r,(hS.drop Rm.z).drop Rm.z⟩
end
end Go.Proofs.YtdfnejebobekoaaGreatDoor
