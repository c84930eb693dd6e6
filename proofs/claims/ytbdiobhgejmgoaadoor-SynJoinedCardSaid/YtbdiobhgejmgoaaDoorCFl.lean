/- Texts of Fl. -/
import Derived.Test.YtbdiobhgejmgoaaDoorCXt
import Derived.Test.YtbdiobhgejmgoaaDoorProg
import Derived.KernelRfl
import Derived.Shelf.Strconv.Itoa0
import Derived.Shelf.Strconv.Itoa1
import Derived.Shelf.LaysM
import Derived.Shelf.Strconv.Itoa2
import Derived.Shelf.Strconv.Itoa3
import Derived.Shelf.Strconv.ParseIntEmpty
import Derived.Shelf.Strconv.Clone
import Derived.Shelf.Strconv.SyntaxError
import Derived.Shelf.LaysC
import Derived.Shelf.Strconv.ToError
import Derived.Shelf.Strconv.Lower
import Derived.Shelf.Strconv.ParseUint10
import Derived.Shelf.Strconv.ParseUint10Empty
import Derived.Shelf.Strconv.ParseUint10Any
import Derived.Shelf.Strconv.ParseInt10
import Derived.Shelf.Strconv.RangeError
import Derived.Shelf.Strconv.ToErrorRange
import Derived.Shelf.Strconv.ParseUintEmpty
import Derived.Shelf.Strconv.ParseUint10b64
import Derived.Shelf.Strconv.ParseUint10b32
import Derived.Shelf.Strconv.ParseUint10b16
import Derived.Shelf.Strconv.ParseUint10b8
import Derived.Shelf.Strconv.ParseUint10At
import Derived.Shelf.Strconv.ParseInt10At64
import Derived.Shelf.Strconv.ParseInt10At32
import Derived.Shelf.Strconv.ParseInt10At16
import Derived.Shelf.Strconv.ParseInt10At8
import Derived.Shelf.Strconv.ParseInt10All
import Derived.Shelf.Strconv.ParseIntPublic10
import Derived.Shelf.Strings.Search1
import Derived.Shelf.Strings.Search2
import Derived.Shelf.Strings.Search3
import Derived.Shelf.Strings.Shaped
import Derived.Shelf.Strings.Prefix
import Derived.Test.YtbdiobhgejmgoaaDoorCMd
set_option linter.unusedSimpArgs false
set_option linter.unusedVariables false
set_option linter.unusedSectionVars false
namespace Go.Proofs.YtbdiobhgejmgoaaDoor
open Go.Wk Go.Xt Tryd
instance isfn4:IsFn prog 4:=isf func4
instance isfn5:IsFn prog 5:=isf func5
instance isfn6:IsFn prog 6:=isf func6
instance isfn7:IsFn prog 7:=isf func7
instance isfn8:IsFn prog 8:=isf func8
instance isfn9:IsFn prog 9:=isf func9
instance isfn10:IsFn prog 10:=isf func10
instance isfn11:IsFn prog 11:=isf func11
instance isfn12:IsFn prog 12:=isf func12
instance isfn13:IsFn prog 13:=isf func13
instance isfn14:IsFn prog 14:=isf func14
instance isfn15:IsFn prog 15:=isf func15
instance isfn16:IsFn prog 16:=isf func16
instance isfn17:IsFn prog 17:=isf func17
instance isfn18:IsFn prog 18:=isf func18
instance isfn19:IsFn prog 19:=isf func19
instance isfn20:IsFn prog 20:=isf func20
instance isfn21:IsFn prog 21:=isf func21
instance isfn22:IsFn prog 22:=isf func22
instance isfn23:IsFn prog 23:=isf func23
instance isfn24:IsFn prog 24:=isf func24
instance isfn25:IsFn prog 25:=isf func25
instance isfn26:IsFn prog 26:=isf func26
instance isfn27:IsFn prog 27:=isf func27
instance isfn28:IsFn prog 28:=isf func28
instance isfn29:IsFn prog 29:=isf func29
instance isfn30:IsFn prog 30:=isf func30
instance isfn33:IsFn prog 33:=isf func33
instance isfn34:IsFn prog 34:=isf func34
instance isfn35:IsFn prog 35:=isf func35
instance isfn36:IsFn prog 36:=isf func36
instance isfn37:IsFn prog 37:=isf func37
instance isfn38:IsFn prog 38:=isf func38
instance isfn39:IsFn prog 39:=isf func39
instance isfn40:IsFn prog 40:=isf func40
instance isfn46:IsFn prog 46:=isf func46
instance isfn47:IsFn prog 47:=isf func47
instance isfn48:IsFn prog 48:=isf func48
instance isfn49:IsFn prog 49:=isf func49
instance isfn50:IsFn prog 50:=isf func50
instance isfn51:IsFn prog 51:=isf func51
instance isfn58:IsFn prog 58:=isf func58
instance isfn59:IsFn prog 59:=isf func59
instance isfn62:IsFn prog 62:=isf func62
instance isfn63:IsFn prog 63:=isf func63
instance isfn64:IsFn prog 64:=isf func64
instance isfn70:IsFn prog 70:=isf func70
instance isfn77:IsFn prog 77:=isf func77
instance isfn78:IsFn prog 78:=isf func78
instance ti2:TI prog 2 false [.int .i64 0] 1 8:=tj (z:=.int .i64 0) underlying2
instance ti3:TI prog 3 false [.int .i64 0] 1 8:=tj (z:=.int .i64 0) underlying3
instance ti4:TI prog 4 false [.bool false] 1 1:=tj (z:=.bool false) underlying4
instance ti9:TI prog 9 false [S []] 1 16:=tj (z:=S []) underlying9
instance ti23:TI prog 23 false [.slice none 0 0] 1 24:=tj (z:=.slice none 0 0) underlying23
instance ti24:TI prog 24 false [.int .i64 0] 1 8:=tj (z:=.int .i64 0) underlying24
instance ti26:TI prog 26 true [.int .i64 0,.int .i64 0] 2 16:=tj (z:=.agg #[.int .i64 0,.int .i64 0]) underlying26
instance ti32:TI prog 32 true [.int .i64 0,S []] 2 24:=tj (z:=.agg #[.int .i64 0,S []]) underlying32
instance ti33:TI prog 33 false [.slice none 0 0] 1 24:=tj (z:=.slice none 0 0) underlying33
instance ti34:TI prog 34 false [.slice none 0 0] 1 24:=tj (z:=.slice none 0 0) underlying34
instance ti36:TI prog 36 true [.int .i64 0,S [],.int .i64 0,S [],.int .i64 0,S [],.int .i64 0,.slice none 0 0,.slice none 0 0] 9 128:=tj (z:=.agg #[.int .i64 0,S [],.int .i64 0,S [],.int .i64 0,S [],.int .i64 0,.slice none 0 0,.slice none 0 0]) underlying36
instance ti37:TI prog 37 false [.slice none 0 0] 1 24:=tj (z:=.slice none 0 0) underlying37
instance ti39:TI prog 39 true [.int .i64 0,.int .i64 0,S [],.slice none 0 0] 4 56:=tj (z:=.agg #[.int .i64 0,.int .i64 0,S [],.slice none 0 0]) underlying39
instance ti41:TI prog 41 true [.int .i64 0,S [],.int .i64 0,.int .i64 0,S [],.slice none 0 0,.slice none 0 0,.slice none 0 0] 8 128:=tj (z:=.agg #[.int .i64 0,S [],.int .i64 0,.int .i64 0,S [],.slice none 0 0,.slice none 0 0,.slice none 0 0]) underlying41
instance ti42:TI prog 42 false [.slice none 0 0] 1 24:=tj (z:=.slice none 0 0) underlying42
instance ti46:TI prog 46 true [.int .i64 0,.int .i64 0] 2 16:=tj (z:=.agg #[.int .i64 0,.int .i64 0]) underlying46
instance ti47:TI prog 47 false [.pointer none] 1 8:=tj (z:=.pointer none) underlying47
instance ti49:TI prog 49 true [.slice none 0 0,.int .i64 0,.int .i64 0] 3 40:=tj (z:=.agg #[.slice none 0 0,.int .i64 0,.int .i64 0]) underlying49
instance ti56:TI prog 56 true [S [],.int .i64 0,S []] 3 40:=tj (z:=.agg #[S [],.int .i64 0,S []]) underlying56
instance ti59:TI prog 59 true [.int .i64 0,S [],.int .i64 0,.int .i64 0] 4 40:=tj (z:=.agg #[.int .i64 0,S [],.int .i64 0,.int .i64 0]) underlying59
instance ti76:TI prog 76 true [.int .i64 0] 1 8:=tj (z:=.agg #[.int .i64 0]) underlying76
instance ti114:TI prog 114 false [.map none] 1 8:=tj (z:=.map none) underlying114
instance ti116:TI prog 116 true [.map none,.bool false] 2 16:=tj (z:=.agg #[.map none,.bool false]) underlying116
theorem eg32:prog.eqGuardType prog.depth 32=false:=by kernel_rfl
theorem eg56:prog.eqGuardType prog.depth 56=false:=by kernel_rfl
theorem eh32:prog.stoodInHeld 32=false:=by kernel_rfl
theorem eh56:prog.stoodInHeld 56=false:=by kernel_rfl
instance fa116_0:FA prog 116 0 0:=fa_of underlying116 rfl rfl rfl ti114 rfl
instance fa116_1:FA prog 116 1 1:=fa_of underlying116 rfl rfl rfl ti4 rfl
instance fa26_0:FA prog 26 0 0:=fa_of underlying26 rfl rfl rfl ti24 rfl
instance fa32_0:FA prog 32 0 0:=fa_of underlying32 rfl rfl rfl ti3 rfl
instance fa32_1:FA prog 32 1 1:=fa_of underlying32 rfl rfl rfl ti9 rfl
instance fa36_0:FA prog 36 0 0:=fa_of underlying36 rfl rfl rfl ti3 rfl
instance fa36_1:FA prog 36 1 1:=fa_of underlying36 rfl rfl rfl ti9 rfl
instance fa36_2:FA prog 36 2 2:=fa_of underlying36 rfl rfl rfl ti32 rfl
instance fa36_3:FA prog 36 3 4:=fa_of underlying36 rfl rfl rfl ti32 rfl
instance fa36_4:FA prog 36 4 6:=fa_of underlying36 rfl rfl rfl ti3 rfl
instance fa36_5:FA prog 36 5 7:=fa_of underlying36 rfl rfl rfl ti33 rfl
instance fa36_6:FA prog 36 6 8:=fa_of underlying36 rfl rfl rfl ti34 rfl
instance fa39_0:FA prog 39 0 0:=fa_of underlying39 rfl rfl rfl ti3 rfl
instance fa39_1:FA prog 39 1 1:=fa_of underlying39 rfl rfl rfl ti2 rfl
instance fa39_2:FA prog 39 2 2:=fa_of underlying39 rfl rfl rfl ti9 rfl
instance fa39_3:FA prog 39 3 3:=fa_of underlying39 rfl rfl rfl ti37 rfl
instance fa41_0:FA prog 41 0 0:=fa_of underlying41 rfl rfl rfl ti3 rfl
instance fa41_1:FA prog 41 1 1:=fa_of underlying41 rfl rfl rfl ti9 rfl
instance fa41_2:FA prog 41 2 2:=fa_of underlying41 rfl rfl rfl ti39 rfl
instance fa41_3:FA prog 41 3 6:=fa_of underlying41 rfl rfl rfl ti34 rfl
instance fa41_4:FA prog 41 4 7:=fa_of underlying41 rfl rfl rfl ti34 rfl
instance fa46_0:FA prog 46 0 0:=fa_of underlying46 rfl rfl rfl ti26 rfl
instance fa49_0:FA prog 49 0 0:=fa_of underlying49 rfl rfl rfl ti42 rfl
instance fa49_1:FA prog 49 1 1:=fa_of underlying49 rfl rfl rfl ti3 rfl
instance fa49_2:FA prog 49 2 2:=fa_of underlying49 rfl rfl rfl ti3 rfl
instance fa56_0:FA prog 56 0 0:=fa_of underlying56 rfl rfl rfl ti9 rfl
instance fa56_1:FA prog 56 1 1:=fa_of underlying56 rfl rfl rfl ti32 rfl
instance fa59_0:FA prog 59 0 0:=fa_of underlying59 rfl rfl rfl ti3 rfl
instance fa59_1:FA prog 59 1 1:=fa_of underlying59 rfl rfl rfl ti9 rfl
instance fa59_2:FA prog 59 2 2:=fa_of underlying59 rfl rfl rfl ti2 rfl
instance fa59_3:FA prog 59 3 3:=fa_of underlying59 rfl rfl rfl ti3 rfl
instance fa76_0:FA prog 76 0 0:=fa_of underlying76 rfl rfl rfl ti3 rfl
theorem pl116:PL prog 116 #[(0,1),(1,1)]:=pl_of underlying116 (fun _=>by kernel_rfl)
theorem pl26:PL prog 26 #[(0,1),(1,1)]:=pl_of underlying26 (fun _=>by kernel_rfl)
theorem pl32:PL prog 32 #[(0,1),(1,1)]:=pl_of underlying32 (fun _=>by kernel_rfl)
theorem pl36:PL prog 36 #[(0,1),(1,1),(2,2),(4,2),(6,1),(7,1),(8,1)]:=pl_of underlying36 (fun _=>by kernel_rfl)
theorem pl39:PL prog 39 #[(0,1),(1,1),(2,1),(3,1)]:=pl_of underlying39 (fun _=>by kernel_rfl)
theorem pl41:PL prog 41 #[(0,1),(1,1),(2,4),(6,1),(7,1)]:=pl_of underlying41 (fun _=>by kernel_rfl)
theorem pl46:PL prog 46 #[(0,2)]:=pl_of underlying46 (fun _=>by kernel_rfl)
theorem pl49:PL prog 49 #[(0,1),(1,1),(2,1)]:=pl_of underlying49 (fun _=>by kernel_rfl)
theorem pl56:PL prog 56 #[(0,1),(1,2)]:=pl_of underlying56 (fun _=>by kernel_rfl)
theorem pl59:PL prog 59 #[(0,1),(1,1),(2,1),(3,1)]:=pl_of underlying59 (fun _=>by kernel_rfl)
theorem pl76:PL prog 76 #[(0,1)]:=pl_of underlying76 (fun _=>by kernel_rfl)
theorem zv3:∀ w,(zeroValue 3).run prog w=.ok (.int .i64 0) w:=zv_of (by kernel_rfl)
end Go.Proofs.YtbdiobhgejmgoaaDoor
namespace Go.Proofs
open Go.Shelf
def Tryd.laysC174_ren:Go.Shelf.Ren:=⟨fun | 174=>19 | 247=>31 | 245=>32 | 287=>41 | 279=>42 | 280=>43 | 281=>44 | 282=>45 | 321=>52 | 322=>53 | 316=>54 | 171=>56 | 205=>55 | 243=>60 | 246=>65 | 283=>71 | 284=>72 | 285=>73 | 286=>74 | 129=>80 | 317=>79 | 318=>81 | 319=>82 | 320=>83 | 337=>84 | 338=>85 | n=>n,fun | 9=>9 | 3=>3 | 2=>2 | 75=>63 | 85=>64 | 4=>4 | 167=>87 | 5=>5 | 53=>88 | 175=>89 | 46=>91 | 168=>92 | 37=>99 | 0=>0 | 210=>101 | 21=>21 | 127=>108 | 145=>111 | 143=>109 | 171=>120 | 173=>123 | 212=>131 | 51=>125 | 20=>20 | 213=>132 | 232=>136 | 233=>137 | 80=>68 | n=>n,fun | 15=>0 | 16=>1 | 17=>3 | 18=>4 | 19=>5 | n=>n⟩
theorem Tryd.laysC174:Go.Proofs.LaysC.n174 Tryd.prog Tryd.laysC174_ren:={
 mixed:=by kernel_rfl
 f129:=Tryd.func80.trans (congrArg some (by kernel_rfl))
 f171:=Tryd.func56.trans (congrArg some (by kernel_rfl))
 f174:=Tryd.func19.trans (congrArg some (by kernel_rfl))
 f205:=Tryd.func55.trans (congrArg some (by kernel_rfl))
 f243:=Tryd.func60.trans (congrArg some (by kernel_rfl))
 f245:=Tryd.func32.trans (congrArg some (by kernel_rfl))
 f246:=Tryd.func65.trans (congrArg some (by kernel_rfl))
 f247:=Tryd.func31.trans (congrArg some (by kernel_rfl))
 f279:=Tryd.func42.trans (congrArg some (by kernel_rfl))
 f280:=Tryd.func43.trans (congrArg some (by kernel_rfl))
 f281:=Tryd.func44.trans (congrArg some (by kernel_rfl))
 f282:=Tryd.func45.trans (congrArg some (by kernel_rfl))
 f283:=Tryd.func71.trans (congrArg some (by kernel_rfl))
 f284:=Tryd.func72.trans (congrArg some (by kernel_rfl))
 f285:=Tryd.func73.trans (congrArg some (by kernel_rfl))
 f286:=Tryd.func74.trans (congrArg some (by kernel_rfl))
 f287:=Tryd.func41.trans (congrArg some (by kernel_rfl))
 f316:=Tryd.func54.trans (congrArg some (by kernel_rfl))
 f317:=Tryd.func79.trans (congrArg some (by kernel_rfl))
 f318:=Tryd.func81.trans (congrArg some (by kernel_rfl))
 f319:=Tryd.func82.trans (congrArg some (by kernel_rfl))
 f320:=Tryd.func83.trans (congrArg some (by kernel_rfl))
 f321:=Tryd.func52.trans (congrArg some (by kernel_rfl))
 f322:=Tryd.func53.trans (congrArg some (by kernel_rfl))
 f337:=Tryd.func84.trans (congrArg some (by kernel_rfl))
 f338:=Tryd.func85.trans (congrArg some (by kernel_rfl))
 t0:=Tryd.underlying0
 a0:=Tryd.isAgg0
 z0:=Tryd.sizeOf0
 v0:=Tryd.zeroValue0
 t2:=Tryd.underlying2
 a2:=Tryd.isAgg2
 z2:=Tryd.sizeOf2
 v2:=Tryd.zeroValue2
 t3:=Tryd.underlying3
 a3:=Tryd.isAgg3
 z3:=Tryd.sizeOf3
 v3:=Tryd.zeroValue3
 t4:=Tryd.underlying4
 a4:=Tryd.isAgg4
 z4:=Tryd.sizeOf4
 v4:=Tryd.zeroValue4
 t5:=Tryd.underlying5
 a5:=Tryd.isAgg5
 z5:=Tryd.sizeOf5
 v5:=Tryd.zeroValue5
 t9:=Tryd.underlying9
 a9:=Tryd.isAgg9
 z9:=Tryd.sizeOf9
 v9:=Tryd.zeroValue9
 t20:=Tryd.underlying20
 a20:=Tryd.isAgg20
 z20:=Tryd.sizeOf20
 v20:=Tryd.zeroValue20
 t21:=Tryd.underlying21
 a21:=Tryd.isAgg21
 z21:=Tryd.sizeOf21
 v21:=Tryd.zeroValue21
 t37:=Tryd.underlying99
 a37:=Tryd.isAgg99
 z37:=Tryd.sizeOf99
 v37:=Tryd.zeroValue99
 t46:=Tryd.underlying91
 a46:=Tryd.isAgg91
 z46:=Tryd.sizeOf91
 v46:=Tryd.zeroValue91
 t51:=Tryd.underlying125
 a51:=Tryd.isAgg125
 z51:=Tryd.sizeOf125
 v51:=Tryd.zeroValue125
 t53:=Tryd.underlying88
 a53:=Tryd.isAgg88
 z53:=Tryd.sizeOf88
 v53:=Tryd.zeroValue88
 t75:=Tryd.underlying63
 a75:=Tryd.isAgg63
 z75:=Tryd.sizeOf63
 v75:=Tryd.zeroValue63
 t85:=Tryd.underlying64
 a85:=Tryd.isAgg64
 z85:=Tryd.sizeOf64
 v85:=Tryd.zeroValue64
 t127:=Tryd.underlying108
 a127:=Tryd.isAgg108
 z127:=Tryd.sizeOf108
 v127:=Tryd.zeroValue108
 t143:=Tryd.underlying109
 a143:=Tryd.isAgg109
 z143:=Tryd.sizeOf109
 v143:=Tryd.zeroValue109
 t145:=Tryd.underlying111
 a145:=Tryd.isAgg111
 z145:=Tryd.sizeOf111
 v145:=Tryd.zeroValue111
 t167:=Tryd.underlying87
 a167:=Tryd.isAgg87
 z167:=Tryd.sizeOf87
 v167:=Tryd.zeroValue87
 t168:=Tryd.underlying92
 a168:=Tryd.isAgg92
 z168:=Tryd.sizeOf92
 v168:=Tryd.zeroValue92
 t171:=Tryd.underlying120
 a171:=Tryd.isAgg120
 z171:=Tryd.sizeOf120
 v171:=Tryd.zeroValue120
 t173:=Tryd.underlying123
 a173:=Tryd.isAgg123
 z173:=Tryd.sizeOf123
 v173:=Tryd.zeroValue123
 t175:=Tryd.underlying89
 a175:=Tryd.isAgg89
 z175:=Tryd.sizeOf89
 v175:=Tryd.zeroValue89
 t210:=Tryd.underlying101
 a210:=Tryd.isAgg101
 z210:=Tryd.sizeOf101
 v210:=Tryd.zeroValue101
 t212:=Tryd.underlying131
 a212:=Tryd.isAgg131
 z212:=Tryd.sizeOf131
 v212:=Tryd.zeroValue131
 t213:=Tryd.underlying132
 a213:=Tryd.isAgg132
 z213:=Tryd.sizeOf132
 t232:=Tryd.underlying136
 a232:=Tryd.isAgg136
 z232:=Tryd.sizeOf136
 v232:=Tryd.zeroValue136
 t233:=Tryd.underlying137
 a233:=Tryd.isAgg137
 z233:=Tryd.sizeOf137
 v233:=Tryd.zeroValue137
 g15:=by kernel_rfl
 g16:=by kernel_rfl
 g17:=by kernel_rfl
 g18:=by kernel_rfl
 g19:=by kernel_rfl
 t80:=Tryd.underlying68
 a80:=Tryd.isAgg68
 z80:=Tryd.sizeOf68
 v80:=Tryd.zeroValue68
 i0:=by kernel_rfl
 i2:=by kernel_rfl
 i3:=by kernel_rfl
 i4:=by kernel_rfl
 i5:=by kernel_rfl
 i9:=by kernel_rfl
 i20:=by kernel_rfl
 i21:=by kernel_rfl
 i37:=by kernel_rfl
 i46:=by kernel_rfl
 i51:=by kernel_rfl
 i53:=by kernel_rfl
 i75:=by kernel_rfl
 i80:=by kernel_rfl
 i85:=by kernel_rfl
 i127:=by kernel_rfl
 i143:=by kernel_rfl
 i145:=by kernel_rfl
 i167:=by kernel_rfl
 i168:=by kernel_rfl
 i171:=by kernel_rfl
 i173:=by kernel_rfl
 i175:=by kernel_rfl
 i210:=by kernel_rfl
 i212:=by kernel_rfl
 i232:=by kernel_rfl
 i233:=by kernel_rfl
 m15:=by kernel_rfl
 m16:=by kernel_rfl
 m17:=by kernel_rfl
 m18:=by kernel_rfl
 m19:=by kernel_rfl
 c0:=by kernel_rfl
 c2:=by kernel_rfl
 c3:=by kernel_rfl
 c4:=by kernel_rfl
 c5:=by kernel_rfl
 c9:=by kernel_rfl
 c20:=by kernel_rfl
 c21:=by kernel_rfl
 c37:=by kernel_rfl
 c46:=by kernel_rfl
 c51:=by kernel_rfl
 c53:=by kernel_rfl
 c75:=by kernel_rfl
 c80:=by kernel_rfl
 c85:=by kernel_rfl
 c127:=by kernel_rfl
 c143:=by kernel_rfl
 c145:=by kernel_rfl
 c167:=by kernel_rfl
 c168:=by kernel_rfl
 c171:=by kernel_rfl
 c173:=by kernel_rfl
 c175:=by kernel_rfl
 c210:=by kernel_rfl
 c212:=by kernel_rfl
 c213:=by kernel_rfl
 c232:=by kernel_rfl
 c233:=by kernel_rfl }
open Go.RowKit in
theorem Tryd.strconv_ParseInt_10_at64_ok (s:ByteArray) (hmax:s.size≤9223372036854775806) (v:Int) (h:Lib.parseIntB 64 s.data.toList=.ok v) (w:World) :
  Calls Tryd.prog 19 #[.string s,.int .i64 10,.int .i64 64] w fun e w'=>e=.returned (.tuple #[.int .i64 v,.nilIface])∧(w'=w∨∃ t,w'=Lib.bytesWorld w 5 t):=Any.strconv_ParseInt_10_at64_ok Tryd.laysC174 s hmax v h w
def Tryd.lays144_ren:Go.Shelf.Ren:=⟨fun | 144=>47 | 143=>57 | 219=>61 | 217=>66 | 225=>67 | 224=>68 | 267=>69 | 266=>75 | 314=>76 | n=>n,fun | 9=>9 | 4=>4 | 3=>3 | 5=>5 | 46=>91 | 146=>126 | 51=>125 | n=>n,fun | 1=>2 | n=>n⟩
theorem Tryd.lays144:Go.Proofs.Lays.n144 Tryd.prog Tryd.lays144_ren:={
 mixed:=by kernel_rfl
 f143:=Tryd.func57.trans (congrArg some (by kernel_rfl))
 f144:=Tryd.func47.trans (congrArg some (by kernel_rfl))
 f217:=Tryd.func66.trans (congrArg some (by kernel_rfl))
 f219:=Tryd.func61.trans (congrArg some (by kernel_rfl))
 f224:=Tryd.func68.trans (congrArg some (by kernel_rfl))
 f225:=Tryd.func67.trans (congrArg some (by kernel_rfl))
 f266:=Tryd.func75.trans (congrArg some (by kernel_rfl))
 f267:=Tryd.func69.trans (congrArg some (by kernel_rfl))
 f314:=Tryd.func76.trans (congrArg some (by kernel_rfl))
 t3:=Tryd.underlying3
 a3:=Tryd.isAgg3
 z3:=Tryd.sizeOf3
 v3:=Tryd.zeroValue3
 t4:=Tryd.underlying4
 a4:=Tryd.isAgg4
 z4:=Tryd.sizeOf4
 v4:=Tryd.zeroValue4
 t5:=Tryd.underlying5
 a5:=Tryd.isAgg5
 z5:=Tryd.sizeOf5
 v5:=Tryd.zeroValue5
 t9:=Tryd.underlying9
 a9:=Tryd.isAgg9
 z9:=Tryd.sizeOf9
 v9:=Tryd.zeroValue9
 t46:=Tryd.underlying91
 a46:=Tryd.isAgg91
 z46:=Tryd.sizeOf91
 v46:=Tryd.zeroValue91
 t51:=Tryd.underlying125
 a51:=Tryd.isAgg125
 z51:=Tryd.sizeOf125
 v51:=Tryd.zeroValue125
 t146:=Tryd.underlying126
 a146:=Tryd.isAgg126
 z146:=Tryd.sizeOf126
 v146:=Tryd.zeroValue126
 g1:=by kernel_rfl }
open Go.RowKit Go.Lib in
theorem Tryd.strings_Contains (s sub:ByteArray) (m:Int) (w:World) (hs:s.size<4294967281) (hm:w.cell? ⟨2,0,none⟩=some (.int .i64 m)) :
  Calls Tryd.prog 47 #[.string s,.string sub] w fun e w'=>e=.returned (.bool (Lib.contains s.data.toList sub.data.toList))∧w'=w:=Any.strings_Contains Tryd.lays144 s sub m w hs hm
end Go.Proofs
namespace Go.Proofs.YtbdiobhgejmgoaaDoor
open Go.Wk Go.Xt Go.Y Tryd
def Gm:M:=fun w=>∃ m,w.cell? ⟨2,0,none⟩=some (.int .i64 m)
theorem pint_w {μ0:M} {w0 w:World} {rsF:List Res} {l:List UInt8} {r:Int} (g:pint l=some r) (hS:Sq μ0 w0 w rsF) :
  CallsV prog 19 [S l,.int .i64 10,.int .i64 64] w (fun v w'=>v=.tuple ⟨[.int .i64 r,.nilIface]⟩∧Sq μ0 w0 w' rsF):=by
 unfold pint at g
 split at g
 ·rename_i hl
  cases hp:Lib.parseIntB 64 l with
  | ok v =>
   rw [hp] at g
   obtain rfl:=Option.some.inj g
   refine ⟨(strconv_ParseInt_10_at64_ok ⟨⟨l⟩⟩ hl v hp w).mono fun e w' he=>?_⟩
   obtain ⟨rfl,hw⟩:=he
   refine ⟨rfl,?_⟩
   rcases hw with rfl | ⟨t,rfl⟩
   ·exact hS
   ·have h:=Lib.bytesWorld_below w 5 t
    exact hS.grow ⟨h.os,h.tape,h.output,h.size,fun k hk _=>h.block k hk⟩
  | _=>rw [hp] at g; cases g
 ·cases g
theorem scont_w {μ0:M} {w0 w:World} {rsF:List Res} {l sub:List UInt8} {b:Bool} (hg:Le Gm μ0) (g:scont l sub=some b) (hS:Sq μ0 w0 w rsF) :
  CallsV prog 47 [S l,S sub] w (fun v w'=>v=.bool b∧Sq μ0 w0 w' rsF):=by
 unfold scont at g
 split at g
 ·rename_i hl
  obtain rfl:=Option.some.inj g
  obtain ⟨m,hm⟩:=hg w hS.a
  refine ⟨(strings_Contains ⟨⟨l⟩⟩ ⟨⟨sub⟩⟩ m w hl hm).mono fun e w' he=>?_⟩
  obtain ⟨rfl,rfl⟩:=he
  exact ⟨rfl,hS⟩
 ·cases g
end Go.Proofs.YtbdiobhgejmgoaaDoor
