/- Texts of Fl. -/
import Derived.Test.YtppgfpelddpnbaaGreatDoorCXt
import Derived.Test.YtppgfpelddpnbaaGreatDoorProg
import Derived.KernelRfl
import Derived.Shelf.Small.Wraps
import Derived.Shelf.Strconv.Itoa0
import Derived.Shelf.Strconv.Itoa1
import Derived.Shelf.LaysM
import Derived.Shelf.Strconv.Itoa2
import Derived.Shelf.Strconv.Itoa3
import Derived.Shelf.Strconv.Itoa4
import Derived.Shelf.Strconv.ParseIntEmpty
import Derived.Shelf.Strconv.Clone
import Derived.Shelf.Strconv.SyntaxError
import Derived.Shelf.LaysC
import Derived.Shelf.Strconv.ToError
import Derived.Shelf.Strconv.Lower
import Derived.Shelf.Strconv.ParseUint10
import Derived.Shelf.Strconv.ParseUint10Empty
import Derived.Shelf.Strconv.ParseUint10Any
import Derived.Shelf.Strconv.ParseInt10
import Derived.Shelf.Strconv.RangeError
import Derived.Shelf.Strconv.ToErrorRange
import Derived.Shelf.Strconv.ParseUintEmpty
import Derived.Shelf.Strconv.ParseUint10b64
import Derived.Shelf.Strconv.ParseUint10b32
import Derived.Shelf.Strconv.ParseUint10b16
import Derived.Shelf.Strconv.ParseUint10b8
import Derived.Shelf.Strconv.ParseUint10At
import Derived.Shelf.Strconv.ParseInt10At64
import Derived.Shelf.Strconv.ParseInt10At32
import Derived.Shelf.Strconv.ParseInt10At16
import Derived.Shelf.Strconv.ParseInt10At8
import Derived.Shelf.Strconv.ParseInt10All
import Derived.Shelf.Strconv.ParseIntPublic10
import Derived.Shelf.Strings.Search1
import Derived.Shelf.Strings.Search2
import Derived.Shelf.Strings.Search3
import Derived.Shelf.Strings.Cut
import Derived.Shelf.Strings.Count
import Derived.Shelf.Strings.Shaped
import Derived.Shelf.Strings.Prefix
import Derived.Shelf.Strings.Split
import Derived.Shelf.Unicode.DecodeSlow
import Derived.Shelf.Slices.Turned
import Derived.Ground.Names2Prog
import Derived.Shelf.Slices.Clone
import Derived.Ground.SlgnProg
import Derived.Shelf.SlicesE.Clone
import Derived.Test.YtppgfpelddpnbaaGreatDoorCMd
import Derived.Lib.SplitLaws
import Derived.Test.YtppgfpelddpnbaaGreatDoorCXu
import Derived.Lib.SlicesS
set_option linter.unusedSimpArgs false
set_option linter.unusedVariables false
set_option linter.unusedSectionVars false
namespace Go.Proofs.YtppgfpelddpnbaaGreatDoor
open Go.Wk Go.Xt Tryz
instance isfn4:IsFn prog 4:=isf func4
instance isfn5:IsFn prog 5:=isf func5
instance isfn6:IsFn prog 6:=isf func6
instance isfn7:IsFn prog 7:=isf func7
instance isfn8:IsFn prog 8:=isf func8
instance isfn9:IsFn prog 9:=isf func9
instance isfn10:IsFn prog 10:=isf func10
instance isfn11:IsFn prog 11:=isf func11
instance isfn12:IsFn prog 12:=isf func12
instance isfn13:IsFn prog 13:=isf func13
instance isfn14:IsFn prog 14:=isf func14
instance isfn15:IsFn prog 15:=isf func15
instance isfn16:IsFn prog 16:=isf func16
instance isfn17:IsFn prog 17:=isf func17
instance isfn18:IsFn prog 18:=isf func18
instance isfn19:IsFn prog 19:=isf func19
instance isfn20:IsFn prog 20:=isf func20
instance isfn21:IsFn prog 21:=isf func21
instance isfn22:IsFn prog 22:=isf func22
instance isfn23:IsFn prog 23:=isf func23
instance isfn24:IsFn prog 24:=isf func24
instance isfn25:IsFn prog 25:=isf func25
instance isfn30:IsFn prog 30:=isf func30
instance isfn31:IsFn prog 31:=isf func31
instance isfn32:IsFn prog 32:=isf func32
instance isfn33:IsFn prog 33:=isf func33
instance isfn34:IsFn prog 34:=isf func34
instance isfn35:IsFn prog 35:=isf func35
instance isfn36:IsFn prog 36:=isf func36
instance isfn37:IsFn prog 37:=isf func37
instance isfn38:IsFn prog 38:=isf func38
instance isfn39:IsFn prog 39:=isf func39
instance isfn40:IsFn prog 40:=isf func40
instance isfn41:IsFn prog 41:=isf func41
instance isfn42:IsFn prog 42:=isf func42
instance isfn43:IsFn prog 43:=isf func43
instance isfn44:IsFn prog 44:=isf func44
instance isfn53:IsFn prog 53:=isf func53
instance isfn54:IsFn prog 54:=isf func54
instance isfn55:IsFn prog 55:=isf func55
instance isfn56:IsFn prog 56:=isf func56
instance isfn57:IsFn prog 57:=isf func57
instance isfn58:IsFn prog 58:=isf func58
instance isfn59:IsFn prog 59:=isf func59
instance isfn60:IsFn prog 60:=isf func60
instance isfn61:IsFn prog 61:=isf func61
instance isfn62:IsFn prog 62:=isf func62
instance isfn63:IsFn prog 63:=isf func63
instance isfn64:IsFn prog 64:=isf func64
instance isfn65:IsFn prog 65:=isf func65
instance isfn66:IsFn prog 66:=isf func66
instance isfn67:IsFn prog 67:=isf func67
instance isfn82:IsFn prog 82:=isf func82
instance isfn83:IsFn prog 83:=isf func83
instance isfn84:IsFn prog 84:=isf func84
instance ti2:TI prog 2 false [.int .i64 0] 1 8:=tj (z:=.int .i64 0) underlying2
instance ti3:TI prog 3 false [.int .i64 0] 1 8:=tj (z:=.int .i64 0) underlying3
instance ti4:TI prog 4 false [.bool false] 1 1:=tj (z:=.bool false) underlying4
instance ti5:TI prog 5 false [.int .u8 0] 1 1:=tj (z:=.int .u8 0) underlying5
instance ti9:TI prog 9 false [S []] 1 16:=tj (z:=S []) underlying9
instance ti22:TI prog 22 false [.slice none 0 0] 1 24:=tj (z:=.slice none 0 0) underlying22
instance ti23:TI prog 23 false [.slice none 0 0] 1 24:=tj (z:=.slice none 0 0) underlying23
instance ti25:TI prog 25 true [.slice none 0 0,.slice none 0 0] 2 48:=tj (z:=.agg #[.slice none 0 0,.slice none 0 0]) underlying25
instance ti27:TI prog 27 false [.int .i64 0] 1 8:=tj (z:=.int .i64 0) underlying27
instance ti29:TI prog 29 true [.int .i64 0,.int .i64 0,.int .i64 0] 3 24:=tj (z:=.agg #[.int .i64 0,.int .i64 0,.int .i64 0]) underlying29
instance ti33:TI prog 33 true [.int .i64 0,.int .i64 0] 2 16:=tj (z:=.agg #[.int .i64 0,.int .i64 0]) underlying33
instance ti38:TI prog 38 false [.slice none 0 0] 1 24:=tj (z:=.slice none 0 0) underlying38
instance ti39:TI prog 39 false [.slice none 0 0] 1 24:=tj (z:=.slice none 0 0) underlying39
instance ti41:TI prog 41 true [.int .i64 0,.int .i64 0,.slice none 0 0,.int .i64 0,.int .i64 0,.slice none 0 0] 6 80:=tj (z:=.agg #[.int .i64 0,.int .i64 0,.slice none 0 0,.int .i64 0,.int .i64 0,.slice none 0 0]) underlying41
instance ti43:TI prog 43 true [.int .i64 0,.int .i64 0,.int .i64 0] 3 24:=tj (z:=.agg #[.int .i64 0,.int .i64 0,.int .i64 0]) underlying43
instance ti44:TI prog 44 false [.pointer none] 1 8:=tj (z:=.pointer none) underlying44
instance ti45:TI prog 45 false [.slice none 0 0] 1 24:=tj (z:=.slice none 0 0) underlying45
instance ti47:TI prog 47 true [.pointer none,.slice none 0 0] 2 32:=tj (z:=.agg #[.pointer none,.slice none 0 0]) underlying47
instance ti56:TI prog 56 true [.int .i64 0,.int .i64 0] 2 16:=tj (z:=.agg #[.int .i64 0,.int .i64 0]) underlying56
instance ti70:TI prog 70 false [.pointer none] 1 8:=tj (z:=.pointer none) underlying70
instance ti72:TI prog 72 false [.pointer none] 1 8:=tj (z:=.pointer none) underlying72
instance ti73:TI prog 73 false [.pointer none] 1 8:=tj (z:=.pointer none) underlying73
instance ti75:TI prog 75 true [.pointer none] 1 8:=tj (z:=.agg #[.pointer none]) underlying75
instance ti89:TI prog 89 false [.map none] 1 8:=tj (z:=.map none) underlying89
instance ti90:TI prog 90 false [.slice none 0 0] 1 24:=tj (z:=.slice none 0 0) underlying90
instance ti92:TI prog 92 true [.slice none 0 0,.slice none 0 0] 2 48:=tj (z:=.agg #[.slice none 0 0,.slice none 0 0]) underlying92
instance ti94:TI prog 94 true [.pointer none,.pointer none,.map none,.slice none 0 0,.slice none 0 0,.slice none 0 0,.int .i64 0] 7 104:=tj (z:=.agg #[.pointer none,.pointer none,.map none,.slice none 0 0,.slice none 0 0,.slice none 0 0,.int .i64 0]) underlying94
theorem eg29:prog.eqGuardType prog.depth 29=false:=by kernel_rfl
theorem eh29:prog.stoodInHeld 29=false:=by kernel_rfl
instance fa25_0:FA prog 25 0 0:=fa_of underlying25 rfl rfl rfl ti22 rfl
instance fa25_1:FA prog 25 1 1:=fa_of underlying25 rfl rfl rfl ti23 rfl
instance fa29_0:FA prog 29 0 0:=fa_of underlying29 rfl rfl rfl ti27 rfl
instance fa33_0:FA prog 33 0 0:=fa_of underlying33 rfl rfl rfl ti27 rfl
instance fa41_0:FA prog 41 0 0:=fa_of underlying41 rfl rfl rfl ti3 rfl
instance fa41_1:FA prog 41 1 1:=fa_of underlying41 rfl rfl rfl ti3 rfl
instance fa41_2:FA prog 41 2 2:=fa_of underlying41 rfl rfl rfl ti38 rfl
instance fa41_3:FA prog 41 3 3:=fa_of underlying41 rfl rfl rfl ti3 rfl
instance fa41_4:FA prog 41 4 4:=fa_of underlying41 rfl rfl rfl ti3 rfl
instance fa41_5:FA prog 41 5 5:=fa_of underlying41 rfl rfl rfl ti39 rfl
instance fa43_0:FA prog 43 0 0:=fa_of underlying43 rfl rfl rfl ti3 rfl
instance fa43_1:FA prog 43 1 1:=fa_of underlying43 rfl rfl rfl ti3 rfl
instance fa43_2:FA prog 43 2 2:=fa_of underlying43 rfl rfl rfl ti2 rfl
instance fa47_0:FA prog 47 0 0:=fa_of underlying47 rfl rfl rfl ti44 rfl
instance fa47_1:FA prog 47 1 1:=fa_of underlying47 rfl rfl rfl ti45 rfl
instance fa56_0:FA prog 56 0 0:=fa_of underlying56 rfl rfl rfl ti3 rfl
instance fa56_1:FA prog 56 1 1:=fa_of underlying56 rfl rfl rfl ti3 rfl
instance fa75_0:FA prog 75 0 0:=fa_of underlying75 rfl rfl rfl ti72 rfl
instance fa92_0:FA prog 92 0 0:=fa_of underlying92 rfl rfl rfl ti38 rfl
instance fa92_1:FA prog 92 1 1:=fa_of underlying92 rfl rfl rfl ti90 rfl
instance fa94_0:FA prog 94 0 0:=fa_of underlying94 rfl rfl rfl ti73 rfl
instance fa94_1:FA prog 94 1 1:=fa_of underlying94 rfl rfl rfl ti70 rfl
instance fa94_2:FA prog 94 2 2:=fa_of underlying94 rfl rfl rfl ti89 rfl
instance fa94_3:FA prog 94 3 3:=fa_of underlying94 rfl rfl rfl ti38 rfl
instance fa94_4:FA prog 94 4 4:=fa_of underlying94 rfl rfl rfl ti92 rfl
instance fa94_5:FA prog 94 5 6:=fa_of underlying94 rfl rfl rfl ti27 rfl
theorem pl25:PL prog 25 #[(0,1),(1,1)]:=pl_of underlying25 (fun _=>by kernel_rfl)
theorem pl29:PL prog 29 #[(0,1),(1,1),(2,1)]:=pl_of underlying29 (fun _=>by kernel_rfl)
theorem pl33:PL prog 33 #[(0,1),(1,1)]:=pl_of underlying33 (fun _=>by kernel_rfl)
theorem pl41:PL prog 41 #[(0,1),(1,1),(2,1),(3,1),(4,1),(5,1)]:=pl_of underlying41 (fun _=>by kernel_rfl)
theorem pl43:PL prog 43 #[(0,1),(1,1),(2,1)]:=pl_of underlying43 (fun _=>by kernel_rfl)
theorem pl56:PL prog 56 #[(0,1),(1,1)]:=pl_of underlying56 (fun _=>by kernel_rfl)
theorem pl75:PL prog 75 #[(0,1)]:=pl_of underlying75 (fun _=>by kernel_rfl)
theorem pl92:PL prog 92 #[(0,1),(1,1)]:=pl_of underlying92 (fun _=>by kernel_rfl)
theorem pl94:PL prog 94 #[(0,1),(1,1),(2,1),(3,1),(4,2),(6,1)]:=pl_of underlying94 (fun _=>by kernel_rfl)
theorem zv92:∀ w,(zeroValue 92).run prog w=.ok (.agg #[.slice none 0 0,.slice none 0 0]) w:=zv_of (by kernel_rfl)
end Go.Proofs.YtppgfpelddpnbaaGreatDoor
namespace Go.Proofs
open Go.Shelf
def Tryz.lays103_ren:Go.Shelf.Ren:=⟨fun | 103=>19 | 210=>29 | 206=>51 | n=>n,fun | 9=>9 | 4=>4 | 24=>66 | 3=>3 | n=>n,fun | n=>n⟩
theorem Tryz.lays103:Go.Proofs.Lays.n103 Tryz.prog Tryz.lays103_ren:={
 mixed:=by kernel_rfl
 f103:=Tryz.func19.trans (congrArg some (by kernel_rfl))
 f206:=Tryz.func51.trans (congrArg some (by kernel_rfl))
 f210:=Tryz.func29.trans (congrArg some (by kernel_rfl))
 t3:=Tryz.underlying3
 a3:=Tryz.isAgg3
 z3:=Tryz.sizeOf3
 v3:=Tryz.zeroValue3
 t4:=Tryz.underlying4
 a4:=Tryz.isAgg4
 z4:=Tryz.sizeOf4
 v4:=Tryz.zeroValue4
 t9:=Tryz.underlying9
 a9:=Tryz.isAgg9
 z9:=Tryz.sizeOf9
 v9:=Tryz.zeroValue9
 t24:=Tryz.underlying66
 a24:=Tryz.isAgg66
 z24:=Tryz.sizeOf66
 v24:=Tryz.zeroValue66 }
open Go.RowKit in
theorem Tryz.strings_CutPrefix (s p:ByteArray) (w:World) :
  Calls Tryz.prog 19 #[.string s,.string p] w fun e w'=>e=.returned (.tuple #[.string ⟨(Lib.trimPrefix s.data.toList p.data.toList).toArray⟩,.bool (Lib.hasPrefix s.data.toList p.data.toList)])∧w'=w:=Any.strings_CutPrefix Tryz.lays103 s p w
def Tryz.laysM171_ren:Go.Shelf.Ren:=⟨fun | 171=>10 | 243=>26 | 246=>27 | 283=>46 | 284=>47 | 285=>48 | 286=>49 | 129=>69 | 317=>68 | 318=>70 | 319=>71 | 320=>72 | 337=>86 | 338=>87 | n=>n,fun | 3=>3 | 9=>9 | 2=>2 | 4=>4 | 171=>103 | 0=>0 | 53=>104 | 37=>45 | 5=>5 | 173=>107 | 212=>126 | 51=>127 | 20=>20 | 213=>128 | 46=>129 | 232=>149 | 233=>150 | n=>n,fun | 17=>0 | 18=>2 | 19=>3 | n=>n⟩
theorem Tryz.laysM171:Go.Proofs.LaysM.n171 Tryz.prog Tryz.laysM171_ren:={
 mixed:=by kernel_rfl
 f129:=Tryz.func69.trans (congrArg some (by kernel_rfl))
 f171:=Tryz.func10.trans (congrArg some (by kernel_rfl))
 f243:=Tryz.func26.trans (congrArg some (by kernel_rfl))
 f246:=Tryz.func27.trans (congrArg some (by kernel_rfl))
 f283:=Tryz.func46.trans (congrArg some (by kernel_rfl))
 f284:=Tryz.func47.trans (congrArg some (by kernel_rfl))
 f285:=Tryz.func48.trans (congrArg some (by kernel_rfl))
 f286:=Tryz.func49.trans (congrArg some (by kernel_rfl))
 f317:=Tryz.func68.trans (congrArg some (by kernel_rfl))
 f318:=Tryz.func70.trans (congrArg some (by kernel_rfl))
 f319:=Tryz.func71.trans (congrArg some (by kernel_rfl))
 f320:=Tryz.func72.trans (congrArg some (by kernel_rfl))
 f337:=Tryz.func86.trans (congrArg some (by kernel_rfl))
 f338:=Tryz.func87.trans (congrArg some (by kernel_rfl))
 t0:=Tryz.underlying0
 a0:=Tryz.isAgg0
 z0:=Tryz.sizeOf0
 v0:=Tryz.zeroValue0
 t2:=Tryz.underlying2
 a2:=Tryz.isAgg2
 z2:=Tryz.sizeOf2
 v2:=Tryz.zeroValue2
 t3:=Tryz.underlying3
 a3:=Tryz.isAgg3
 z3:=Tryz.sizeOf3
 v3:=Tryz.zeroValue3
 t4:=Tryz.underlying4
 a4:=Tryz.isAgg4
 z4:=Tryz.sizeOf4
 v4:=Tryz.zeroValue4
 t5:=Tryz.underlying5
 a5:=Tryz.isAgg5
 z5:=Tryz.sizeOf5
 v5:=Tryz.zeroValue5
 t9:=Tryz.underlying9
 a9:=Tryz.isAgg9
 z9:=Tryz.sizeOf9
 v9:=Tryz.zeroValue9
 t20:=Tryz.underlying20
 a20:=Tryz.isAgg20
 z20:=Tryz.sizeOf20
 v20:=Tryz.zeroValue20
 t37:=Tryz.underlying45
 a37:=Tryz.isAgg45
 z37:=Tryz.sizeOf45
 v37:=Tryz.zeroValue45
 t46:=Tryz.underlying129
 a46:=Tryz.isAgg129
 z46:=Tryz.sizeOf129
 v46:=Tryz.zeroValue129
 t51:=Tryz.underlying127
 a51:=Tryz.isAgg127
 z51:=Tryz.sizeOf127
 v51:=Tryz.zeroValue127
 t53:=Tryz.underlying104
 a53:=Tryz.isAgg104
 z53:=Tryz.sizeOf104
 v53:=Tryz.zeroValue104
 t171:=Tryz.underlying103
 a171:=Tryz.isAgg103
 z171:=Tryz.sizeOf103
 v171:=Tryz.zeroValue103
 t173:=Tryz.underlying107
 a173:=Tryz.isAgg107
 z173:=Tryz.sizeOf107
 v173:=Tryz.zeroValue107
 t212:=Tryz.underlying126
 a212:=Tryz.isAgg126
 z212:=Tryz.sizeOf126
 v212:=Tryz.zeroValue126
 t213:=Tryz.underlying128
 a213:=Tryz.isAgg128
 z213:=Tryz.sizeOf128
 t232:=Tryz.underlying149
 a232:=Tryz.isAgg149
 z232:=Tryz.sizeOf149
 v232:=Tryz.zeroValue149
 t233:=Tryz.underlying150
 a233:=Tryz.isAgg150
 z233:=Tryz.sizeOf150
 v233:=Tryz.zeroValue150
 g17:=by kernel_rfl
 g18:=by kernel_rfl
 g19:=by kernel_rfl
 i0:=by kernel_rfl
 i2:=by kernel_rfl
 i3:=by kernel_rfl
 i4:=by kernel_rfl
 i5:=by kernel_rfl
 i9:=by kernel_rfl
 i20:=by kernel_rfl
 i37:=by kernel_rfl
 i46:=by kernel_rfl
 i51:=by kernel_rfl
 i53:=by kernel_rfl
 i171:=by kernel_rfl
 i173:=by kernel_rfl
 i212:=by kernel_rfl
 i232:=by kernel_rfl
 i233:=by kernel_rfl
 m17:=by kernel_rfl
 m18:=by kernel_rfl
 m19:=by kernel_rfl }
open Go.RowKit Go.Sort Go.Lib in
theorem Tryz.strconv_Itoa (n : Int) (h0 : -9223372036854775808 ≤ n) (h1 : n ≤ 9223372036854775807) (w : World) (htab : Lib.TabIs Tryz.prog w "internal/strconv.uint64pow10" .u64 Lib.pow10Tab) :
  Calls Tryz.prog 10 #[.int .i64 n] w fun e w'=>e=.returned (.string ⟨(Lib.itoa n).toArray⟩)∧∃ k os,w'=grow (w.drewN k) os:=Any.strconv_Itoa Tryz.laysM171 n h0 h1 w htab
def Tryz.laysM173_ren:Go.Shelf.Ren:=⟨fun | 173=>15 | 246=>27 | 283=>46 | 284=>47 | 285=>48 | 286=>49 | 129=>69 | 317=>68 | 318=>70 | 319=>71 | 320=>72 | 337=>86 | 338=>87 | n=>n,fun | 2=>2 | 3=>3 | 9=>9 | 4=>4 | 171=>103 | 0=>0 | 53=>104 | 37=>45 | 5=>5 | 173=>107 | 212=>126 | 51=>127 | 20=>20 | 213=>128 | 46=>129 | 232=>149 | 233=>150 | n=>n,fun | 17=>0 | 18=>2 | 19=>3 | n=>n⟩
theorem Tryz.laysM173:Go.Proofs.LaysM.n173 Tryz.prog Tryz.laysM173_ren:={
 mixed:=by kernel_rfl
 f129:=Tryz.func69.trans (congrArg some (by kernel_rfl))
 f173:=Tryz.func15.trans (congrArg some (by kernel_rfl))
 f246:=Tryz.func27.trans (congrArg some (by kernel_rfl))
 f283:=Tryz.func46.trans (congrArg some (by kernel_rfl))
 f284:=Tryz.func47.trans (congrArg some (by kernel_rfl))
 f285:=Tryz.func48.trans (congrArg some (by kernel_rfl))
 f286:=Tryz.func49.trans (congrArg some (by kernel_rfl))
 f317:=Tryz.func68.trans (congrArg some (by kernel_rfl))
 f318:=Tryz.func70.trans (congrArg some (by kernel_rfl))
 f319:=Tryz.func71.trans (congrArg some (by kernel_rfl))
 f320:=Tryz.func72.trans (congrArg some (by kernel_rfl))
 f337:=Tryz.func86.trans (congrArg some (by kernel_rfl))
 f338:=Tryz.func87.trans (congrArg some (by kernel_rfl))
 t0:=Tryz.underlying0
 a0:=Tryz.isAgg0
 z0:=Tryz.sizeOf0
 v0:=Tryz.zeroValue0
 t2:=Tryz.underlying2
 a2:=Tryz.isAgg2
 z2:=Tryz.sizeOf2
 v2:=Tryz.zeroValue2
 t3:=Tryz.underlying3
 a3:=Tryz.isAgg3
 z3:=Tryz.sizeOf3
 v3:=Tryz.zeroValue3
 t4:=Tryz.underlying4
 a4:=Tryz.isAgg4
 z4:=Tryz.sizeOf4
 v4:=Tryz.zeroValue4
 t5:=Tryz.underlying5
 a5:=Tryz.isAgg5
 z5:=Tryz.sizeOf5
 v5:=Tryz.zeroValue5
 t9:=Tryz.underlying9
 a9:=Tryz.isAgg9
 z9:=Tryz.sizeOf9
 v9:=Tryz.zeroValue9
 t20:=Tryz.underlying20
 a20:=Tryz.isAgg20
 z20:=Tryz.sizeOf20
 v20:=Tryz.zeroValue20
 t37:=Tryz.underlying45
 a37:=Tryz.isAgg45
 z37:=Tryz.sizeOf45
 v37:=Tryz.zeroValue45
 t46:=Tryz.underlying129
 a46:=Tryz.isAgg129
 z46:=Tryz.sizeOf129
 v46:=Tryz.zeroValue129
 t51:=Tryz.underlying127
 a51:=Tryz.isAgg127
 z51:=Tryz.sizeOf127
 v51:=Tryz.zeroValue127
 t53:=Tryz.underlying104
 a53:=Tryz.isAgg104
 z53:=Tryz.sizeOf104
 v53:=Tryz.zeroValue104
 t171:=Tryz.underlying103
 a171:=Tryz.isAgg103
 z171:=Tryz.sizeOf103
 v171:=Tryz.zeroValue103
 t173:=Tryz.underlying107
 a173:=Tryz.isAgg107
 z173:=Tryz.sizeOf107
 v173:=Tryz.zeroValue107
 t212:=Tryz.underlying126
 a212:=Tryz.isAgg126
 z212:=Tryz.sizeOf126
 v212:=Tryz.zeroValue126
 t213:=Tryz.underlying128
 a213:=Tryz.isAgg128
 z213:=Tryz.sizeOf128
 t232:=Tryz.underlying149
 a232:=Tryz.isAgg149
 z232:=Tryz.sizeOf149
 v232:=Tryz.zeroValue149
 t233:=Tryz.underlying150
 a233:=Tryz.isAgg150
 z233:=Tryz.sizeOf150
 v233:=Tryz.zeroValue150
 g17:=by kernel_rfl
 g18:=by kernel_rfl
 g19:=by kernel_rfl
 i0:=by kernel_rfl
 i2:=by kernel_rfl
 i3:=by kernel_rfl
 i4:=by kernel_rfl
 i5:=by kernel_rfl
 i9:=by kernel_rfl
 i20:=by kernel_rfl
 i37:=by kernel_rfl
 i46:=by kernel_rfl
 i51:=by kernel_rfl
 i53:=by kernel_rfl
 i171:=by kernel_rfl
 i173:=by kernel_rfl
 i212:=by kernel_rfl
 i232:=by kernel_rfl
 i233:=by kernel_rfl
 m17:=by kernel_rfl
 m18:=by kernel_rfl
 m19:=by kernel_rfl }
open Go.RowKit Go.Sort Go.Lib in
theorem Tryz.strconv_FormatInt_10 (n : Int) (h0 : -9223372036854775808 ≤ n) (h1 : n ≤ 9223372036854775807) (w : World) (htab : Lib.TabIs Tryz.prog w "internal/strconv.uint64pow10" .u64 Lib.pow10Tab) :
  Calls Tryz.prog 15 #[.int .i64 n,.int .i64 10] w fun e w'=>e=.returned (.string ⟨(Lib.itoa n).toArray⟩)∧∃ k os,w'=grow (w.drewN k) os:=Any.strconv_FormatInt_10 Tryz.laysM173 n h0 h1 w htab
def Tryz.laysC174_ren:Go.Shelf.Ren:=⟨fun | 174=>53 | 247=>80 | 245=>81 | 287=>93 | 279=>94 | 280=>95 | 281=>96 | 282=>97 | 321=>99 | 322=>100 | 316=>101 | 171=>10 | 205=>102 | 243=>26 | 246=>27 | 283=>46 | 284=>47 | 285=>48 | 286=>49 | 129=>69 | 317=>68 | 318=>70 | 319=>71 | 320=>72 | 337=>86 | 338=>87 | n=>n,fun | 9=>9 | 3=>3 | 2=>2 | 75=>49 | 85=>112 | 4=>4 | 167=>143 | 5=>5 | 53=>104 | 175=>144 | 46=>129 | 168=>146 | 37=>45 | 0=>0 | 210=>155 | 21=>21 | 127=>78 | 145=>163 | 143=>161 | 171=>103 | 173=>107 | 212=>126 | 51=>127 | 20=>20 | 213=>128 | 232=>149 | 233=>150 | 80=>63 | n=>n,fun | 15=>4 | 16=>5 | 17=>0 | 18=>2 | 19=>3 | n=>n⟩
theorem Tryz.laysC174:Go.Proofs.LaysC.n174 Tryz.prog Tryz.laysC174_ren:={
 mixed:=by kernel_rfl
 f129:=Tryz.func69.trans (congrArg some (by kernel_rfl))
 f171:=Tryz.func10.trans (congrArg some (by kernel_rfl))
 f174:=Tryz.func53.trans (congrArg some (by kernel_rfl))
 f205:=Tryz.func102.trans (congrArg some (by kernel_rfl))
 f243:=Tryz.func26.trans (congrArg some (by kernel_rfl))
 f245:=Tryz.func81.trans (congrArg some (by kernel_rfl))
 f246:=Tryz.func27.trans (congrArg some (by kernel_rfl))
 f247:=Tryz.func80.trans (congrArg some (by kernel_rfl))
 f279:=Tryz.func94.trans (congrArg some (by kernel_rfl))
 f280:=Tryz.func95.trans (congrArg some (by kernel_rfl))
 f281:=Tryz.func96.trans (congrArg some (by kernel_rfl))
 f282:=Tryz.func97.trans (congrArg some (by kernel_rfl))
 f283:=Tryz.func46.trans (congrArg some (by kernel_rfl))
 f284:=Tryz.func47.trans (congrArg some (by kernel_rfl))
 f285:=Tryz.func48.trans (congrArg some (by kernel_rfl))
 f286:=Tryz.func49.trans (congrArg some (by kernel_rfl))
 f287:=Tryz.func93.trans (congrArg some (by kernel_rfl))
 f316:=Tryz.func101.trans (congrArg some (by kernel_rfl))
 f317:=Tryz.func68.trans (congrArg some (by kernel_rfl))
 f318:=Tryz.func70.trans (congrArg some (by kernel_rfl))
 f319:=Tryz.func71.trans (congrArg some (by kernel_rfl))
 f320:=Tryz.func72.trans (congrArg some (by kernel_rfl))
 f321:=Tryz.func99.trans (congrArg some (by kernel_rfl))
 f322:=Tryz.func100.trans (congrArg some (by kernel_rfl))
 f337:=Tryz.func86.trans (congrArg some (by kernel_rfl))
 f338:=Tryz.func87.trans (congrArg some (by kernel_rfl))
 t0:=Tryz.underlying0
 a0:=Tryz.isAgg0
 z0:=Tryz.sizeOf0
 v0:=Tryz.zeroValue0
 t2:=Tryz.underlying2
 a2:=Tryz.isAgg2
 z2:=Tryz.sizeOf2
 v2:=Tryz.zeroValue2
 t3:=Tryz.underlying3
 a3:=Tryz.isAgg3
 z3:=Tryz.sizeOf3
 v3:=Tryz.zeroValue3
 t4:=Tryz.underlying4
 a4:=Tryz.isAgg4
 z4:=Tryz.sizeOf4
 v4:=Tryz.zeroValue4
 t5:=Tryz.underlying5
 a5:=Tryz.isAgg5
 z5:=Tryz.sizeOf5
 v5:=Tryz.zeroValue5
 t9:=Tryz.underlying9
 a9:=Tryz.isAgg9
 z9:=Tryz.sizeOf9
 v9:=Tryz.zeroValue9
 t20:=Tryz.underlying20
 a20:=Tryz.isAgg20
 z20:=Tryz.sizeOf20
 v20:=Tryz.zeroValue20
 t21:=Tryz.underlying21
 a21:=Tryz.isAgg21
 z21:=Tryz.sizeOf21
 v21:=Tryz.zeroValue21
 t37:=Tryz.underlying45
 a37:=Tryz.isAgg45
 z37:=Tryz.sizeOf45
 v37:=Tryz.zeroValue45
 t46:=Tryz.underlying129
 a46:=Tryz.isAgg129
 z46:=Tryz.sizeOf129
 v46:=Tryz.zeroValue129
 t51:=Tryz.underlying127
 a51:=Tryz.isAgg127
 z51:=Tryz.sizeOf127
 v51:=Tryz.zeroValue127
 t53:=Tryz.underlying104
 a53:=Tryz.isAgg104
 z53:=Tryz.sizeOf104
 v53:=Tryz.zeroValue104
 t75:=Tryz.underlying49
 a75:=Tryz.isAgg49
 z75:=Tryz.sizeOf49
 v75:=Tryz.zeroValue49
 t85:=Tryz.underlying112
 a85:=Tryz.isAgg112
 z85:=Tryz.sizeOf112
 v85:=Tryz.zeroValue112
 t127:=Tryz.underlying78
 a127:=Tryz.isAgg78
 z127:=Tryz.sizeOf78
 v127:=Tryz.zeroValue78
 t143:=Tryz.underlying161
 a143:=Tryz.isAgg161
 z143:=Tryz.sizeOf161
 v143:=Tryz.zeroValue161
 t145:=Tryz.underlying163
 a145:=Tryz.isAgg163
 z145:=Tryz.sizeOf163
 v145:=Tryz.zeroValue163
 t167:=Tryz.underlying143
 a167:=Tryz.isAgg143
 z167:=Tryz.sizeOf143
 v167:=Tryz.zeroValue143
 t168:=Tryz.underlying146
 a168:=Tryz.isAgg146
 z168:=Tryz.sizeOf146
 v168:=Tryz.zeroValue146
 t171:=Tryz.underlying103
 a171:=Tryz.isAgg103
 z171:=Tryz.sizeOf103
 v171:=Tryz.zeroValue103
 t173:=Tryz.underlying107
 a173:=Tryz.isAgg107
 z173:=Tryz.sizeOf107
 v173:=Tryz.zeroValue107
 t175:=Tryz.underlying144
 a175:=Tryz.isAgg144
 z175:=Tryz.sizeOf144
 v175:=Tryz.zeroValue144
 t210:=Tryz.underlying155
 a210:=Tryz.isAgg155
 z210:=Tryz.sizeOf155
 v210:=Tryz.zeroValue155
 t212:=Tryz.underlying126
 a212:=Tryz.isAgg126
 z212:=Tryz.sizeOf126
 v212:=Tryz.zeroValue126
 t213:=Tryz.underlying128
 a213:=Tryz.isAgg128
 z213:=Tryz.sizeOf128
 t232:=Tryz.underlying149
 a232:=Tryz.isAgg149
 z232:=Tryz.sizeOf149
 v232:=Tryz.zeroValue149
 t233:=Tryz.underlying150
 a233:=Tryz.isAgg150
 z233:=Tryz.sizeOf150
 v233:=Tryz.zeroValue150
 g15:=by kernel_rfl
 g16:=by kernel_rfl
 g17:=by kernel_rfl
 g18:=by kernel_rfl
 g19:=by kernel_rfl
 t80:=Tryz.underlying63
 a80:=Tryz.isAgg63
 z80:=Tryz.sizeOf63
 v80:=Tryz.zeroValue63
 i0:=by kernel_rfl
 i2:=by kernel_rfl
 i3:=by kernel_rfl
 i4:=by kernel_rfl
 i5:=by kernel_rfl
 i9:=by kernel_rfl
 i20:=by kernel_rfl
 i21:=by kernel_rfl
 i37:=by kernel_rfl
 i46:=by kernel_rfl
 i51:=by kernel_rfl
 i53:=by kernel_rfl
 i75:=by kernel_rfl
 i80:=by kernel_rfl
 i85:=by kernel_rfl
 i127:=by kernel_rfl
 i143:=by kernel_rfl
 i145:=by kernel_rfl
 i167:=by kernel_rfl
 i168:=by kernel_rfl
 i171:=by kernel_rfl
 i173:=by kernel_rfl
 i175:=by kernel_rfl
 i210:=by kernel_rfl
 i212:=by kernel_rfl
 i232:=by kernel_rfl
 i233:=by kernel_rfl
 m15:=by kernel_rfl
 m16:=by kernel_rfl
 m17:=by kernel_rfl
 m18:=by kernel_rfl
 m19:=by kernel_rfl
 c0:=by kernel_rfl
 c2:=by kernel_rfl
 c3:=by kernel_rfl
 c4:=by kernel_rfl
 c5:=by kernel_rfl
 c9:=by kernel_rfl
 c20:=by kernel_rfl
 c21:=by kernel_rfl
 c37:=by kernel_rfl
 c46:=by kernel_rfl
 c51:=by kernel_rfl
 c53:=by kernel_rfl
 c75:=by kernel_rfl
 c80:=by kernel_rfl
 c85:=by kernel_rfl
 c127:=by kernel_rfl
 c143:=by kernel_rfl
 c145:=by kernel_rfl
 c167:=by kernel_rfl
 c168:=by kernel_rfl
 c171:=by kernel_rfl
 c173:=by kernel_rfl
 c175:=by kernel_rfl
 c210:=by kernel_rfl
 c212:=by kernel_rfl
 c213:=by kernel_rfl
 c232:=by kernel_rfl
 c233:=by kernel_rfl }
open Go.RowKit in
theorem Tryz.strconv_ParseInt_10_at64_ok (s:ByteArray) (hmax:s.size≤9223372036854775806) (v:Int) (h:Lib.parseIntB 64 s.data.toList=.ok v) (w:World) :
  Calls Tryz.prog 53 #[.string s,.int .i64 10,.int .i64 64] w fun e w'=>e=.returned (.tuple #[.int .i64 v,.nilIface])∧(w'=w∨∃ t,w'=Lib.bytesWorld w 5 t):=Any.strconv_ParseInt_10_at64_ok Tryz.laysC174 s hmax v h w
open Go.RowKit in
theorem Tryz.strconv_ParseInt_10_at64_syntax (s:ByteArray) (hlim:s.size≤281474976710656) (h:(match Lib.parseIntB 64 s.data.toList with | .ok _=>false | .range=>false | _=>true)=true) (ev:Value) (w:World) (hv:w.cell? ⟨4,0,none⟩=some ev) (hev:ev=.nilIface∨∃ te pe,ev=.iface te pe) :
  Calls Tryz.prog 53 #[.string s,.int .i64 10,.int .i64 64] w fun e w'=>∃ N,e=.returned (.tuple #[.int .i64 (0),.iface 146 (.pointer (some ⟨N,0,none⟩))])∧w.heap.size≤N∧w'.heap[N]?=some (.cells #[.string ⟨#[80,97,114,115,101,73,110,116]⟩,.string s,ev] 155 (0,0))∧Below w.heap.size w w':=Any.strconv_ParseInt_10_at64_syntax Tryz.laysC174 s hlim (by cases hh:Lib.parseIntB 64 s.data.toList <;> simp_all) ev w hv hev
open Go.RowKit in
theorem Tryz.strconv_ParseInt_10_at64_range (s:ByteArray) (hlim:s.size≤281474976710656) (h:Lib.parseIntB 64 s.data.toList=.range) (ev:Value) (w:World) (hv:w.cell? ⟨5,0,none⟩=some ev) (hev:ev=.nilIface∨∃ te pe,ev=.iface te pe) :
  Calls Tryz.prog 53 #[.string s,.int .i64 10,.int .i64 64] w fun e w'=>∃ N,e=.returned (.tuple #[.int .i64 (Lib.intSat 64 s.data.toList),.iface 146 (.pointer (some ⟨N,0,none⟩))])∧w.heap.size≤N∧w'.heap[N]?=some (.cells #[.string ⟨#[80,97,114,115,101,73,110,116]⟩,.string s,ev] 155 (0,0))∧Below w.heap.size w w':=Any.strconv_ParseInt_10_at64_range Tryz.laysC174 s hlim h ev w hv hev
def Tryz.lays145_ren:Go.Shelf.Ren:=⟨fun | 145=>18 | 220=>28 | 219=>50 | 217=>73 | 225=>74 | 224=>75 | 267=>76 | 266=>88 | 314=>89 | n=>n,fun | 9=>9 | 4=>4 | 59=>64 | 3=>3 | 5=>5 | 46=>129 | 146=>138 | 51=>127 | n=>n,fun | 1=>1 | n=>n⟩
theorem Tryz.lays145:Go.Proofs.Lays.n145 Tryz.prog Tryz.lays145_ren:={
 mixed:=by kernel_rfl
 f145:=Tryz.func18.trans (congrArg some (by kernel_rfl))
 f217:=Tryz.func73.trans (congrArg some (by kernel_rfl))
 f219:=Tryz.func50.trans (congrArg some (by kernel_rfl))
 f220:=Tryz.func28.trans (congrArg some (by kernel_rfl))
 f224:=Tryz.func75.trans (congrArg some (by kernel_rfl))
 f225:=Tryz.func74.trans (congrArg some (by kernel_rfl))
 f266:=Tryz.func88.trans (congrArg some (by kernel_rfl))
 f267:=Tryz.func76.trans (congrArg some (by kernel_rfl))
 f314:=Tryz.func89.trans (congrArg some (by kernel_rfl))
 t3:=Tryz.underlying3
 a3:=Tryz.isAgg3
 z3:=Tryz.sizeOf3
 v3:=Tryz.zeroValue3
 t4:=Tryz.underlying4
 a4:=Tryz.isAgg4
 z4:=Tryz.sizeOf4
 v4:=Tryz.zeroValue4
 t5:=Tryz.underlying5
 a5:=Tryz.isAgg5
 z5:=Tryz.sizeOf5
 v5:=Tryz.zeroValue5
 t9:=Tryz.underlying9
 a9:=Tryz.isAgg9
 z9:=Tryz.sizeOf9
 v9:=Tryz.zeroValue9
 t46:=Tryz.underlying129
 a46:=Tryz.isAgg129
 z46:=Tryz.sizeOf129
 v46:=Tryz.zeroValue129
 t51:=Tryz.underlying127
 a51:=Tryz.isAgg127
 z51:=Tryz.sizeOf127
 v51:=Tryz.zeroValue127
 t59:=Tryz.underlying64
 a59:=Tryz.isAgg64
 z59:=Tryz.sizeOf64
 v59:=Tryz.zeroValue64
 t146:=Tryz.underlying138
 a146:=Tryz.isAgg138
 z146:=Tryz.sizeOf138
 v146:=Tryz.zeroValue138
 g1:=by kernel_rfl }
open Go.RowKit Go.Lib in
theorem Tryz.strings_Cut (s sep:ByteArray) (m:Int) (w:World) (hs:s.size<4294967281) (hm:w.cell? ⟨1,0,none⟩=some (.int .i64 m)) :
  Calls Tryz.prog 18 #[.string s,.string sep] w fun e w'=>e=.returned (.tuple #[.string ⟨(Lib.cut s.data.toList sep.data.toList).1.toArray⟩,.string ⟨(Lib.cut s.data.toList sep.data.toList).2.1.toArray⟩,.bool (Lib.cut s.data.toList sep.data.toList).2.2])∧∃ n,w'=w.drewN n:=Any.strings_Cut Tryz.lays145 s sep m w hs hm
def Tryz.lays146_ren:Go.Shelf.Ren:=⟨fun | 146=>30 | 221=>52 | 268=>77 | 138=>78 | 143=>79 | 195=>90 | 197=>91 | 218=>92 | 219=>50 | 260=>98 | 217=>73 | 225=>74 | 224=>75 | 267=>76 | 266=>88 | 314=>89 | n=>n,fun | 9=>9 | 31=>57 | 3=>3 | 4=>4 | 0=>0 | 105=>141 | 21=>21 | 5=>5 | 46=>129 | 119=>157 | 139=>160 | 138=>159 | 146=>138 | 51=>127 | n=>n,fun | 1=>1 | 3=>6 | 4=>7 | n=>n⟩
theorem Tryz.lays146:Go.Proofs.Lays.n146 Tryz.prog Tryz.lays146_ren:={
 mixed:=by kernel_rfl
 f138:=Tryz.func78.trans (congrArg some (by kernel_rfl))
 f143:=Tryz.func79.trans (congrArg some (by kernel_rfl))
 f146:=Tryz.func30.trans (congrArg some (by kernel_rfl))
 f195:=Tryz.func90.trans (congrArg some (by kernel_rfl))
 f197:=Tryz.func91.trans (congrArg some (by kernel_rfl))
 f217:=Tryz.func73.trans (congrArg some (by kernel_rfl))
 f218:=Tryz.func92.trans (congrArg some (by kernel_rfl))
 f219:=Tryz.func50.trans (congrArg some (by kernel_rfl))
 f221:=Tryz.func52.trans (congrArg some (by kernel_rfl))
 f224:=Tryz.func75.trans (congrArg some (by kernel_rfl))
 f225:=Tryz.func74.trans (congrArg some (by kernel_rfl))
 f260:=Tryz.func98.trans (congrArg some (by kernel_rfl))
 f266:=Tryz.func88.trans (congrArg some (by kernel_rfl))
 f267:=Tryz.func76.trans (congrArg some (by kernel_rfl))
 f268:=Tryz.func77.trans (congrArg some (by kernel_rfl))
 f314:=Tryz.func89.trans (congrArg some (by kernel_rfl))
 t0:=Tryz.underlying0
 a0:=Tryz.isAgg0
 z0:=Tryz.sizeOf0
 v0:=Tryz.zeroValue0
 t3:=Tryz.underlying3
 a3:=Tryz.isAgg3
 z3:=Tryz.sizeOf3
 v3:=Tryz.zeroValue3
 t4:=Tryz.underlying4
 a4:=Tryz.isAgg4
 z4:=Tryz.sizeOf4
 v4:=Tryz.zeroValue4
 t5:=Tryz.underlying5
 a5:=Tryz.isAgg5
 z5:=Tryz.sizeOf5
 v5:=Tryz.zeroValue5
 t9:=Tryz.underlying9
 a9:=Tryz.isAgg9
 z9:=Tryz.sizeOf9
 v9:=Tryz.zeroValue9
 t21:=Tryz.underlying21
 a21:=Tryz.isAgg21
 z21:=Tryz.sizeOf21
 v21:=Tryz.zeroValue21
 t31:=Tryz.underlying57
 a31:=Tryz.isAgg57
 z31:=Tryz.sizeOf57
 v31:=Tryz.zeroValue57
 t46:=Tryz.underlying129
 a46:=Tryz.isAgg129
 z46:=Tryz.sizeOf129
 v46:=Tryz.zeroValue129
 t51:=Tryz.underlying127
 a51:=Tryz.isAgg127
 z51:=Tryz.sizeOf127
 v51:=Tryz.zeroValue127
 t105:=Tryz.underlying141
 a105:=Tryz.isAgg141
 z105:=Tryz.sizeOf141
 v105:=Tryz.zeroValue141
 t119:=Tryz.underlying157
 a119:=Tryz.isAgg157
 z119:=Tryz.sizeOf157
 t138:=Tryz.underlying159
 a138:=Tryz.isAgg159
 z138:=Tryz.sizeOf159
 v138:=Tryz.zeroValue159
 t139:=Tryz.underlying160
 a139:=Tryz.isAgg160
 z139:=Tryz.sizeOf160
 v139:=Tryz.zeroValue160
 t146:=Tryz.underlying138
 a146:=Tryz.isAgg138
 z146:=Tryz.sizeOf138
 v146:=Tryz.zeroValue138
 g1:=by kernel_rfl
 g3:=by kernel_rfl
 g4:=by kernel_rfl }
open Go.RowKit Go.Lib in
theorem Tryz.strings_Split (s sep:ByteArray) (m:Int) (w:World) (hs:s.size<4294967281) (hm:w.cell? ⟨1,0,none⟩=some (.int .i64 m)) (h1:1≤sep.size) :
  Calls Tryz.prog 30 #[.string s,.string sep] w fun e w' =>
   e=.returned (.slice (some ⟨w.heap.size,0,none⟩) (Lib.countB s sep+1) (Lib.countB s sep+1))∧w'=w.alloc (.cells ((Lib.splitB sep 0 (Lib.countB s sep) s).map Value.string).toArray 9):=Any.strings_Split Tryz.lays146 (by kernel_rfl) s sep m w hs hm h1
def Tryz.lays107_ren:Go.Shelf.Ren:=⟨fun | 107=>66 | 108=>85 | n=>n,fun | 28=>38 | 3=>3 | 4=>4 | 0=>0 | n=>n,fun | n=>n⟩
theorem Tryz.lays107:Go.Proofs.Lays.n107 Tryz.prog Tryz.lays107_ren:={
 mixed:=by kernel_rfl
 f107:=Tryz.func66.trans (congrArg some (by kernel_rfl))
 f108:=Tryz.func85.trans (congrArg some (by kernel_rfl))
 t0:=Tryz.underlying0
 a0:=Tryz.isAgg0
 z0:=Tryz.sizeOf0
 v0:=Tryz.zeroValue0
 t3:=Tryz.underlying3
 a3:=Tryz.isAgg3
 z3:=Tryz.sizeOf3
 v3:=Tryz.zeroValue3
 t4:=Tryz.underlying4
 a4:=Tryz.isAgg4
 z4:=Tryz.sizeOf4
 v4:=Tryz.zeroValue4
 t28:=Tryz.underlying38
 a28:=Tryz.isAgg38
 z28:=Tryz.sizeOf38
 v28:=Tryz.zeroValue38 }
open Go.Lib in
theorem Tryz.slices_Contains_int (b off n c:Nat) (zs:List Int) (x:Int) (w:World) (hz:n≤zs.length) (hbig:n≤9223372036854775807) (hc:∀ j,j<zs.length→w.cell? ⟨b,off+j,none⟩=some (.int .i64 (zs.getD j 0))) :
  Calls Tryz.prog 66 #[.slice (some ⟨b,off,none⟩) n c,.int .i64 x] w fun e w'=>e=.returned (.bool ((zs.take n).contains x))∧w'=w:=Any.slices_Contains_int Tryz.lays107 b off n c zs x w hz hbig hc
open Go.Lib in
theorem Tryz.slices_Contains_int_empty (a:Option Addr) (c:Nat) (x:Int) (w:World) :
  Calls Tryz.prog 66 #[.slice a 0 c,.int .i64 x] w fun e w'=>e=.returned (.bool false)∧w'=w:=Any.slices_Contains_int_empty Tryz.lays107 a c x w
def Tryz.lays109_ren:Go.Shelf.Ren:=⟨fun | 109=>31 | n=>n,fun | 31=>57 | 9=>9 | 3=>3 | 0=>0 | 4=>4 | n=>n,fun | n=>n⟩
theorem Tryz.lays109:Go.Proofs.Lays.n109 Tryz.prog Tryz.lays109_ren:={
 mixed:=by kernel_rfl
 f109:=Tryz.func31.trans (congrArg some (by kernel_rfl))
 t0:=Tryz.underlying0
 a0:=Tryz.isAgg0
 z0:=Tryz.sizeOf0
 v0:=Tryz.zeroValue0
 t3:=Tryz.underlying3
 a3:=Tryz.isAgg3
 z3:=Tryz.sizeOf3
 v3:=Tryz.zeroValue3
 t4:=Tryz.underlying4
 a4:=Tryz.isAgg4
 z4:=Tryz.sizeOf4
 v4:=Tryz.zeroValue4
 t9:=Tryz.underlying9
 a9:=Tryz.isAgg9
 z9:=Tryz.sizeOf9
 v9:=Tryz.zeroValue9
 t31:=Tryz.underlying57
 a31:=Tryz.isAgg57
 z31:=Tryz.sizeOf57
 v31:=Tryz.zeroValue57 }
open Go.Lib in
theorem Tryz.slices_Index_string (b off n c:Nat) (zs:List ByteArray) (x:ByteArray) (w:World) (hz:n≤zs.length) (hbig:n≤9223372036854775807) (hc:∀ j,j<zs.length→w.cell? ⟨b,off+j,none⟩=some (.string (zs.getD j ByteArray.empty))) :
  Calls Tryz.prog 31 #[.slice (some ⟨b,off,none⟩) n c,.string x] w fun e w'=>e=.returned (.int .i64 (Lib.idxOfS (zs.take n) x))∧w'=w:=Any.slices_Index_string Tryz.lays109 b off n c zs x w hz hbig hc
open Go.Lib in
theorem Tryz.slices_Index_string_empty (a:Option Addr) (c:Nat) (x:ByteArray) (w:World) :
  Calls Tryz.prog 31 #[.slice a 0 c,.string x] w fun e w'=>e=.returned (.int .i64 (Lib.idxOfS [] x))∧w'=w:=Any.slices_Index_string_empty Tryz.lays109 a c x w
def Tryz.laysNm215_ren:Go.Shelf.Ren:=⟨fun | 15=>59 | n=>n,fun | 22=>38 | 3=>3 | 4=>4 | n=>n,fun | n=>n⟩
theorem Tryz.laysNm215:Go.Proofs.Lays2.n15 Tryz.prog Tryz.laysNm215_ren:={
 mixed:=by kernel_rfl
 f15:=Tryz.func59.trans (congrArg some (by kernel_rfl))
 t3:=Tryz.underlying3
 a3:=Tryz.isAgg3
 z3:=Tryz.sizeOf3
 v3:=Tryz.zeroValue3
 t4:=Tryz.underlying4
 a4:=Tryz.isAgg4
 z4:=Tryz.sizeOf4
 v4:=Tryz.zeroValue4
 t22:=Tryz.underlying38
 a22:=Tryz.isAgg38
 z22:=Tryz.sizeOf38
 v22:=Tryz.zeroValue38
 i3:=by kernel_rfl }
open Go.RowKit Go.Lib in
theorem Tryz.slices_Clone_int (b off n c:Nat) (zs:List Int) (w:World) (hz:n≤zs.length) (hbig:n*8≤140737488355328) (hc:∀ j,j<zs.length→w.cell? ⟨b,off+j,none⟩=some (.int .i64 (zs.getD j 0))) :
  Calls Tryz.prog 59 #[.slice (some ⟨b,off,none⟩) n c] w fun e w'=>∃ v',e=.returned v'∧w'.ownsRow w.heap.size 3 1 v' n ((zs.take n).map (Value.int .i64))∧v'≠.slice none 0 0∧Below w.heap.size w w':=Any.slices_Clone_int Tryz.laysNm215 b off n c zs w hz hbig hc
open Go.RowKit Go.Lib in
theorem Tryz.slices_Clone_int_nil (n c:Nat) (w:World) :
  Calls Tryz.prog 59 #[.slice none n c] w fun e w'=>e=.returned (.slice none 0 0)∧w'=w:=Any.slices_Clone_int_nil Tryz.laysNm215 n c w
open Go.RowKit Go.Lib in
theorem Tryz.slices_Clone_int_zero (a:Addr) (c:Nat) (w:World) :
  Calls Tryz.prog 59 #[.slice (some a) 0 c] w fun e w'=>∃ v',e=.returned v'∧w'.ownsRow w.heap.size 3 1 v' 0 []∧v'≠.slice none 0 0∧Below w.heap.size w w':=Any.slices_Clone_int_zero Tryz.laysNm215 a c w
def Tryz.laysSlE041_f60_ren:Go.Shelf.Ren:=⟨fun | 41=>60 | n=>n,fun | 22=>90 | 23=>4 | 4=>4 | n=>n,fun | n=>n⟩
theorem Tryz.laysSlE041_f60:Go.Proofs.SlLaysE0.n41 Tryz.prog Tryz.laysSlE041_f60_ren:={
 mixed:=by kernel_rfl
 f41:=⟨Tryz.f60.name,by decide,Tryz.func60.trans (congrArg some (by kernel_rfl))⟩
 t4:=Tryz.underlying4
 a4:=Tryz.isAgg4
 z4:=Tryz.sizeOf4
 v4:=Tryz.zeroValue4
 t22:=Tryz.underlying90
 a22:=Tryz.isAgg90
 z22:=Tryz.sizeOf90
 v22:=Tryz.zeroValue90 }
open Go.RowKit Go.Lib in
theorem Tryz.slices_Clone_f60 (i0:TypeInfo) (z:Value) (size bytes:Nat) (hi:Tryz.prog.info? 4=some i0) (hz0:i0.zero=some z) (hz1:i0.size=size) (hz2:i0.bytes=bytes) (hzs:z.cells.size=size) (hsz:0<size) (z23:∀ w,(Go.sizeOf 4).run Tryz.prog w=.ok size w) (b off n c:Nat) (news:List Value) (w:World) (hl:news.length=n*size) (hn:n≤maxLen) (hbig:n*bytes≤140737488355328) (hc:∀ j u,news[j]?=some u→w.cell? ⟨b,off+j,none⟩=some u) (h1:∀ u ∈ news,u.oneCell'=true) :
  Calls Tryz.prog 60 #[.slice (some ⟨b,off,none⟩) n c] w fun e w'=>∃ v',e=.returned v'∧w'.ownsRow w.heap.size 4 size v' n news∧v'≠.slice none 0 0∧Below w.heap.size w w':=AnyE.slices_Clone Tryz.laysSlE041_f60 i0 z size bytes hi hz0 hz1 hz2 hzs hsz z23 b off n c news w hl hn hbig hc h1
open Go.RowKit Go.Lib in
theorem Tryz.slices_Clone_nil_f60 (n c:Nat) (w:World) :
  Calls Tryz.prog 60 #[.slice none n c] w fun e w'=>e=.returned (.slice none 0 0)∧w'=w:=AnyE.slices_Clone_nil Tryz.laysSlE041_f60 n c w
end Go.Proofs
namespace Go.Proofs.YtppgfpelddpnbaaGreatDoor
open Go.Wk Go.Xt Go.Y Go.RowKit Go.Sort Tryz
theorem grow_of {w w':World} (h:Below w.heap.size w w'):Grow w w':=⟨h.os,h.tape,h.output,h.size,fun k hk _=>h.block k hk⟩
theorem grow_drewN (w:World) (n:Nat):Grow w (w.drewN n):=⟨rfl,rfl,rfl,Nat.le_refl _,fun _ _ _=>rfl⟩
theorem grow_grow' (w:World) (n:Nat) (os:Array Obj):Grow w (grow (w.drewN n) os):=⟨rfl,rfl,rfl,by simp [grow],fun k hk _=>by
 simp only [grow,World.heap_drewN]
 exact Array.getElem?_append_left hk⟩
def Gm : M := fun w => (∃ m, w.cell? ⟨1, 0, none⟩ = some (.int .i64 m)) ∧ Lib.TabIs prog w "internal/strconv.uint64pow10" .u64 Lib.pow10Tab ∧ (∃ ev, w.cell? ⟨4, 0, none⟩ = some ev ∧ (ev = .nilIface ∨ ∃ te pe, ev = .iface te pe)) ∧ (∃ ev, w.cell? ⟨5, 0, none⟩ = some ev ∧ (ev = .nilIface ∨ ∃ te pe, ev = .iface te pe))
section
variable {μ0:M} {w0 w:World} {rsF:List Res}
theorem s_cut_w {a b:List UInt8} {r:List UInt8×List UInt8×Bool} (hg:Le Gm μ0) (g:s_cut a b=some r) (hS:Sq μ0 w0 w rsF) :
  CallsV prog 18 [S a,S b] w (fun v w'=>v=.tuple ⟨[S r.1,S r.2.1,.bool r.2.2]⟩∧Sq μ0 w0 w' rsF):=by
 unfold s_cut at g
 split at g
 ·rename_i hl
  obtain rfl:=Option.some.inj g
  obtain ⟨⟨m,hm⟩,-⟩:=hg w hS.a
  exact ⟨(strings_Cut ⟨⟨a⟩⟩ ⟨⟨b⟩⟩ m w hl hm).mono fun e w' he=>by
   obtain ⟨rfl,n,rfl⟩:=he
   exact ⟨rfl,hS.grow (grow_drewN w n)⟩⟩
 ·cases g
theorem s_pre_w {a b:List UInt8} {r:List UInt8×Bool} (g:s_pre a b=some r) (hS:Sq μ0 w0 w rsF) :
  CallsV prog 19 [S a,S b] w (fun v w'=>v=.tuple ⟨[S r.1,.bool r.2]⟩∧Sq μ0 w0 w' rsF):=by
 obtain rfl:=Option.some.inj g
 exact ⟨(strings_CutPrefix ⟨⟨a⟩⟩ ⟨⟨b⟩⟩ w).mono fun e w' he=>by
  obtain ⟨rfl,rfl⟩:=he
  exact ⟨rfl,hS⟩⟩
theorem rw_strings {μ:M}:∀ (l:List ByteArray),Rw μ (l.map Value.string) (l.map (·.data.toList))
 | []=>Rw.nil
 | x::l=>Rw.cons (cs:=[.string x]) (show [Value.string x]=[S x.data.toList] by simp [S]) (rw_strings l)
theorem s_split_w {a b:List UInt8} {r:List (List UInt8)} (hg:Le Gm μ0) (g:s_split a b=some r) (hS:Sq μ0 w0 w rsF) :
  CallsV prog 30 [S a,S b] w (fun v w'=>∃ (μ':M) (p:Option Addr) (c:Nat),v=.slice p r.length c∧Le μ0 μ'∧Sq μ' w0 w' rsF∧Sl μ' p c r):=by
 unfold s_split at g
 split at g
 ·rename_i hl
  obtain ⟨hl,h1⟩:=hl
  obtain rfl:=Option.some.inj g
  obtain ⟨⟨m,hm⟩,-⟩:=hg w hS.a
  refine ⟨(strings_Split ⟨⟨a⟩⟩ ⟨⟨b⟩⟩ m w hl hm h1).mono fun e w' he=>?_⟩
  obtain ⟨rfl,rfl⟩:=he
  have hn:=Lib.splitB_all ⟨⟨b⟩⟩ h1 0 _ ⟨⟨a⟩⟩ rfl
  have hc:=Lib.countB_le ⟨⟨b⟩⟩ h1 _ ⟨⟨a⟩⟩ (Nat.le_refl _)
  have hsz:(⟨⟨a⟩⟩:ByteArray).size<4294967281:=hl
  have key:Sq μ0 w0 (w.alloc (.cells ((Lib.splitB ⟨⟨b⟩⟩ 0 (Lib.countB ⟨⟨a⟩⟩ ⟨⟨b⟩⟩) ⟨⟨a⟩⟩).map Value.string).toArray 9)) (.row (.slice (some ⟨w.heap.size,0,none⟩) (Lib.countB ⟨⟨a⟩⟩ ⟨⟨b⟩⟩+1) (Lib.countB ⟨⟨a⟩⟩ ⟨⟨b⟩⟩+1)) 9 1 (Lib.countB ⟨⟨a⟩⟩ ⟨⟨b⟩⟩+1) ((Lib.splitB ⟨⟨b⟩⟩ 0 (Lib.countB ⟨⟨a⟩⟩ ⟨⟨b⟩⟩) ⟨⟨a⟩⟩).map Value.string)::rsF):=by
   refine hS.alloc rfl ⟨by simp [hn],.inr ⟨_,0,_,_,rfl,heap_alloc_new w _,Nat.le_refl _,?_,?_,?_⟩⟩
   ·simp only [maxLen]; omega
   ·simp [hn]
   ·simp only [List.drop_zero,Nat.mul_one]
    exact List.take_of_length_le (by simp [hn])
  obtain ⟨μ',p,c,e,hle,hs,hS'⟩:=Sep.frzRow (α:=List UInt8) key (rw_strings _) (by simp [hn])
  exact ⟨μ',p,c,by rw [← e],hle,hS',hs⟩
 ·cases g
theorem s_idx_w {l:List (List UInt8)} {x:List UInt8} {r:Int} {p:Option Addr} {c:Nat} (hl:Sl μ0 p c l) (g:s_idx l x=some r) (hS:Sq μ0 w0 w rsF) :
  CallsV prog 31 [.slice p l.length c,S x] w (fun v w'=>v=.int .i64 r∧Sq μ0 w0 w' rsF):=by
 obtain rfl:=Option.some.inj g
 cases l with
 | nil=>exact ⟨(slices_Index_string_empty p c ⟨⟨x⟩⟩ w).mono fun e w' he=>by
   obtain ⟨rfl,rfl⟩:=he
   exact ⟨rfl,hS⟩⟩
 | cons y l =>
  have hlen:=Sl.len hl
  rcases hl.el with h | ⟨b,o,rfl,gg,hel⟩
  ·cases h
  ·refine ⟨(slices_Index_string b o (y::l).length c ((y::l).map fun y=>⟨⟨y⟩⟩) ⟨⟨x⟩⟩ w (by simp) hlen ?_).mono fun e w' he=>?_⟩
   ·intro j hj
    have hj2:j<(y::l).length:=by simpa using hj
    obtain ⟨h1,h2⟩:=hel j _ (List.getElem?_eq_getElem hj2)
    have h3:gg j=[S (y::l)[j]]:=h2
    rw [h3] at h1
    have h4:=h1 w hS.a 0 _ rfl
    have h5:o+j*Mo.sz (List UInt8)+0=o+j:=by show o+j*1+0=_; omega
    rw [h5] at h4
    rw [h4]
    simp only [List.getD_eq_getElem?_getD,List.getElem?_map,List.getElem?_eq_getElem hj2]
    rfl
   ·obtain ⟨rfl,rfl⟩:=he
    refine ⟨?_,hS⟩
    rw [List.take_of_length_le (by simp)]
theorem eq_ifc {P:Program} {T:TypeId} {ms:Array (String×TypeId)} {v:Value} {b:Bool} (hu:P.underlying T=some (.interface ms)) (hv:(v=.nilIface∧b=true)∨((∃ a c,v=.iface a c)∧b=false)):EqV P 1 T v .nilIface b:=⟨fun d w hd=>by
 cases d with
 | zero=>omega
 | succ d=>rcases hv with ⟨rfl,rfl⟩ | ⟨⟨a,c,rfl⟩,rfl⟩ <;> simp [Op.equalIn,run_underlying hu]⟩
theorem s_eqni {P:Program} {Q:Exit→Act→World→Prop} {K:List Value→List Deferred→World→Prop} {fr fr':List Value} {ds:List Deferred} {dst:Option Tmp} {ty:TypeId} {pos:String} {after:Array Edge} {g:Option (Nat×Bool)} {x:Operand} {t t':TypeId} {v:Value} {b:Bool} {ms:Array (String×TypeId)} (hu:P.underlying t=some (.interface ms)) (hx:Ev fr x v) (hv:(v=.nilIface∧b=true)∨((∃ a c,v=.iface a c)∧b=false)) (hp:Dt fr dst (.bool b) fr') (k:K fr' ds w) :
  OW P (Oper.mk dst (.binOp .eql t x (.const .nilIface) t') ty pos after g) fr ds w K Q:=by
 refine su ⟨fun ds w=>?_⟩ hp k
 have h1:=hx ds
 have h2:(F fr ds).eval (.const .nilIface)=.nilIface:=rfl
 have h3:=(eq_ifc hu hv).out Op.maxDepth w (by decide)
 rcases hv with ⟨rfl,rfl⟩ | ⟨⟨a,c,rfl⟩,rfl⟩ <;> simp [execOp,h1,h2,eqGuard,binOp,Op.equal,h3]
theorem parse_w {s:List UInt8} (hg:Le Gm μ0) (hl:s.length≤281474976710656) (hS:Sq μ0 w0 w rsF) :
  CallsV prog 53 [S s,.int .i64 10,.int .i64 64] w (fun v w'=>∃ n e,v=.tuple ⟨[.int .i64 n,e]⟩∧Sq μ0 w0 w' rsF∧(match Lib.parseIntB 64 s with | .ok k=>n=k∧e=.nilIface | .range=>n=Lib.intSat 64 s∧∃ a c,e=.iface a c | _=>n=0∧∃ a c,e=.iface a c)):=by
 have hsz:(⟨⟨s⟩⟩:ByteArray).size=s.length:=rfl
 obtain ⟨-,-,⟨e1,h1,h1'⟩,⟨e2,h2,h2'⟩⟩:=hg w hS.a
 cases hp:Lib.parseIntB 64 s
 ·rename_i k
  refine ⟨(strconv_ParseInt_10_at64_ok ⟨⟨s⟩⟩ (by omega) k hp w).mono fun e w' he=>?_⟩
  obtain ⟨rfl,hw⟩:=he
  refine ⟨k,.nilIface,rfl,?_,rfl,rfl⟩
  rcases hw with rfl | ⟨t,rfl⟩
  ·exact hS
  ·exact hS.grow (grow_of (Lib.bytesWorld_below w 5 t))
 ·refine ⟨(strconv_ParseInt_10_at64_syntax ⟨⟨s⟩⟩ (by omega) (by rw [show (⟨⟨s⟩⟩:ByteArray).data.toList=s from rfl,hp]) e1 w h1 h1').mono fun e w' he=>?_⟩
  obtain ⟨N,rfl,-,-,hb⟩:=he
  exact ⟨_,_,rfl,hS.grow (grow_of hb),rfl,_,_,rfl⟩
 ·refine ⟨(strconv_ParseInt_10_at64_range ⟨⟨s⟩⟩ (by omega) hp e2 w h2 h2').mono fun e w' he=>?_⟩
  obtain ⟨N,rfl,-,-,hb⟩:=he
  exact ⟨_,_,rfl,hS.grow (grow_of hb),rfl,_,_,rfl⟩
theorem format_w {n:Int} (hg:Le Gm μ0) (h0:-9223372036854775808≤n) (h1:n≤9223372036854775807) (hS:Sq μ0 w0 w rsF) :
  CallsV prog 15 [.int .i64 n,.int .i64 10] w (fun v w'=>v=S (Lib.itoa n)∧Sq μ0 w0 w' rsF):=by
 obtain ⟨-,ht,-⟩:=hg w hS.a
 refine ⟨(strconv_FormatInt_10 n h0 h1 w ht).mono fun e w' he=>?_⟩
 obtain ⟨rfl,k,os,rfl⟩:=he
 exact ⟨rfl,hS.grow (grow_grow' w k os)⟩
theorem parse_range {s:List UInt8} {k:Int} (h:Lib.parseIntB 64 s=.ok k):-9223372036854775808≤k∧k≤9223372036854775807:=by
 unfold Lib.parseIntB at h
 split at h
 ·cases h
 ·rename_i c r
  dsimp only at h
  split at h
  ·cases h
  ·cases h
  ·rename_i u hu
   split at h
   ·cases h
   ·split at h
    ·cases h
    ·simp at h
     split at h <;> omega
theorem asm_number_w {s:List UInt8} {r:Int×Bool} (hg:Le Gm μ0) (g:asm_number s=some r) (hS:Sq μ0 w0 w rsF) :
  CallsV prog 32 [S s] w (fun v w'=>v=.tuple ⟨[.int .i64 r.1,.bool r.2]⟩∧Sq μ0 w0 w' rsF):=by
 unfold asm_number at g
 split at g
 ·rename_i hl
  obtain rfl:=Option.some.inj g
  clear g
  refine enter func32 rfl (frm:=[_,_,_,_,_,_,_,_,_,_,_,_,_,_,_,_,_,_,_,_]) rfl ?_
  refine cseq ?_
  refine creg ?_
  refine wl (s_assign ec (dt p2) ?_)
  refine wl (s_assign ec (dt p3) ?_)
  refine wnil ?_
  refine xn ?_
  refine cseq ?_
  refine creg ?_
  refine wl (s_move (et d0) (dt p7) ?_)
  refine wl (s_callv isfn53 ef (e1 (et d7) (e1 ec (e1 ec e0))) (parse_w hg hl hS) ?_)
  rintro _ w1 ⟨n,e,rfl,hS,hp⟩
  refine pu (dt p8) ?_
  refine wl (s_move (et d8) (dt p6) ?_)
  refine wl (s_extr (et d6) d0 (dt p9) ?_)
  refine wl (s_extr (et d6) d1 (dt (ps p0)) ?_)
  refine wl (s_assign (et d9) (dt p4) ?_)
  refine wl (s_assign (et (ds d0)) (dt p5) ?_)
  refine wnil ?_
  refine xn ?_
  refine cseq ?_
  refine creg ?_
  refine wl (s_move (et d4) (dt (ps p1)) ?_)
  refine wl (s_move (et d5) (dt (ps p2)) ?_)
  cases hpp:Lib.parseIntB 64 s
  ·rename_i k
   rw [hpp] at hp
   obtain ⟨rfl,rfl⟩:=hp
   obtain ⟨h0,h1⟩:=parse_range hpp
   refine wl (s_eqni underlying49 (et (ds d2)) (.inl ⟨rfl,rfl⟩) (dt (ps p3)) ?_)
   refine wl (s_move (et (ds d3)) (dt (ps p4)) ?_)
   refine wy rfl (ds d4) (s_move (et d4) (dt (ps p5)) ?_)
   refine wy rfl (ds d4) (s_callv isfn15 ef (e1 (et (ds d5)) (e1 ec e0)) (format_w hg h0 h1 hS) ?_)
   rintro _ w2 ⟨rfl,hS⟩
   refine pu (dt (ps p6)) ?_
   refine wy rfl (ds d4) (s_move (et d0) (dt (ps p7)) ?_)
   refine wy rfl (ds d4) (s_eqs (et (ds d6)) (et (ds d7)) (dt (ps p8)) ?_)
   refine wl (s_pickt (et (ds d4)) (et (ds d8)) (dt (ps p9)) ?_)
   refine wl (s_assign (et (ds d1)) (dt p2) ?_)
   refine wl (s_assign (et (ds d9)) (dt p3) ?_)
   refine wnil ?_
   refine xn ?_
   refine cret ?_
   refine ret2 rfl d2 d3 ?_
   exact ⟨rfl,hS⟩
  ·rw [hpp] at hp
   obtain ⟨rfl,a,c,rfl⟩:=hp
   refine wl (s_eqni underlying49 (et (ds d2)) (.inr ⟨⟨_,_,rfl⟩,rfl⟩) (dt (ps p3)) ?_)
   refine wl (s_move (et (ds d3)) (dt (ps p4)) ?_)
   refine wn rfl (ds d4) rfl (dt (ps p5)) ?_
   refine wn rfl (ds d4) rfl (dt (ps p6)) ?_
   refine wn rfl (ds d4) rfl (dt (ps p7)) ?_
   refine wn rfl (ds d4) rfl (dt (ps p8)) ?_
   refine wl (s_pickf (et (ds d4)) ec (dt (ps p9)) ?_)
   refine wl (s_assign (et (ds d1)) (dt p2) ?_)
   refine wl (s_assign (et (ds d9)) (dt p3) ?_)
   refine wnil ?_
   refine xn ?_
   refine cret ?_
   refine ret2 rfl d2 d3 ?_
   exact ⟨rfl,hS⟩
  ·rw [hpp] at hp
   obtain ⟨rfl,a,c,rfl⟩:=hp
   refine wl (s_eqni underlying49 (et (ds d2)) (.inr ⟨⟨_,_,rfl⟩,rfl⟩) (dt (ps p3)) ?_)
   refine wl (s_move (et (ds d3)) (dt (ps p4)) ?_)
   refine wn rfl (ds d4) rfl (dt (ps p5)) ?_
   refine wn rfl (ds d4) rfl (dt (ps p6)) ?_
   refine wn rfl (ds d4) rfl (dt (ps p7)) ?_
   refine wn rfl (ds d4) rfl (dt (ps p8)) ?_
   refine wl (s_pickf (et (ds d4)) ec (dt (ps p9)) ?_)
   refine wl (s_assign (et (ds d1)) (dt p2) ?_)
   refine wl (s_assign (et (ds d9)) (dt p3) ?_)
   refine wnil ?_
   refine xn ?_
   refine cret ?_
   refine ret2 rfl d2 d3 ?_
   exact ⟨rfl,hS⟩
 ·cases g
end
theorem grow_growN (w:World) (n:Nat) (os:Array Obj):Grow w (Go.Sort.grow (w.drewN n) os):=⟨rfl,rfl,rfl,by simp [Go.Sort.grow],fun k hk _=>by
 simp only [Go.Sort.grow,World.heap_drewN]
 exact Array.getElem?_append_left hk⟩
theorem fmt_w {μ0:M} {w0 w:World} {rsF:List Res} {n:Int} {r:List UInt8} (hg:Le Gm μ0) (g:fmt10 n=some r) (hS:Sq μ0 w0 w rsF) :
  CallsV prog 15 [.int .i64 n,.int .i64 10] w (fun v w'=>v=S r∧Sq μ0 w0 w' rsF):=by
 unfold fmt10 at g
 split at g
 ·rename_i h
  obtain rfl:=Option.some.inj g
  obtain ⟨-,ht,-⟩:=hg w hS.a
  refine ⟨(strconv_FormatInt_10 n h.1 h.2 w ht).mono fun e w' he=>?_⟩
  obtain ⟨rfl,k,os,rfl⟩:=he
  exact ⟨rfl,hS.grow (grow_growN w k os)⟩
 ·cases g
theorem itoa_w {μ0:M} {w0 w:World} {rsF:List Res} {n:Int} {r:List UInt8} (hg:Le Gm μ0) (g:fmt10 n=some r) (hS:Sq μ0 w0 w rsF) :
  CallsV prog 10 [.int .i64 n] w (fun v w'=>v=S r∧Sq μ0 w0 w' rsF):=by
 unfold fmt10 at g
 split at g
 ·rename_i h
  obtain rfl:=Option.some.inj g
  obtain ⟨-,ht,-⟩:=hg w hS.a
  refine ⟨(strconv_Itoa n h.1 h.2 w ht).mono fun e w' he=>?_⟩
  obtain ⟨rfl,k,os,rfl⟩:=he
  exact ⟨rfl,hS.grow (grow_growN w k os)⟩
 ·cases g
end Go.Proofs.YtppgfpelddpnbaaGreatDoor
namespace Go.Proofs.YtppgfpelddpnbaaGreatDoor
open Go.Wk Go.Xt Go.Y Go.RowKit Tryz
section
variable {μ μ0:M} {w0 w:World} {rsF rs:List Res}
def Cells1 (w:World) (v:Value) (vs:List Value):Prop:=(vs=[]∧∃ a c,v=.slice a 0 c)∨∃ b o c,v=.slice (some ⟨b,o,none⟩) vs.length c∧vs.length≤9223372036854775807∧∀ j y,vs[j]?=some y→w.cell? ⟨b,o+j,none⟩=some y
theorem rw_cells {α:Type} [Mo α] {f:α→Value} (hf:∀ (μ:M) (l:List Value) (x:α),Mo.cs μ l x→l=[f x]):∀ {l:List α} {cells:List Value},Rw μ cells l→cells=l.map f
 | [],cells,h=>by rw [Rw] at h; simp [h]
 | x::l,cells,h=>by
  rw [Rw] at h
  obtain ⟨cs,t,rfl,h1,h2⟩:=h
  rw [hf _ _ _ h1,rw_cells hf h2]; rfl
theorem cells_row {α:Type} [Mo α] {f:α→Value} (hf:∀ (μ:M) (l:List Value) (x:α),Mo.cs μ l x→l=[f x]) {v:Value} {T:TypeId} {l:List α} {cells:List Value} (h:Row w v T 1 l.length cells) (hr:Rw μ cells l):Cells1 w v (l.map f):=by
 have e:=rw_cells hf hr
 subst e
 rcases h.2 with ⟨rfl,h2⟩ | ⟨g,o,cap,cur,rfl,hg,h1,h2,h3,h4⟩
 ·exact .inl ⟨by rw [List.length_eq_zero_iff.1 h2]; rfl,none,0,rfl⟩
 ·refine .inr ⟨g,o,cap,by simp,by simp; exact Nat.le_trans h1 (Nat.le_trans h2 (by decide)),fun j y hj=>?_⟩
  rw [cell_of_row w g (o+j) cur T (0,0) hg]
  rw [← h4,List.getElem?_take] at hj
  split at hj
  ·rw [List.getElem?_drop] at hj; simpa using hj
  ·cases hj
theorem cells_sl {α:Type} [Mo α] {f:α→Value} (hf:∀ (μ:M) (l:List Value) (x:α),Mo.cs μ l x→l=[f x]) (hsz:Mo.sz α=1) {a:Option Addr} {c:Nat} {l:List α} (h:Sl μ a c l) (hw:μ w):Cells1 w (.slice a l.length c) (l.map f):=by
 rcases h.el with rfl | ⟨b,o,rfl,gg,hel⟩
 ·exact .inl ⟨rfl,a,c,rfl⟩
 ·refine .inr ⟨b,o,c,by simp,by simp; exact Sl.len h,fun j y hj=>?_⟩
  simp only [List.getElem?_map,Option.map_eq_some_iff] at hj
  obtain ⟨x,hx,rfl⟩:=hj
  obtain ⟨h1,h2⟩:=hel j x hx
  rw [hf _ _ _ h2,hsz] at h1
  have:=h1 w hw 0 _ rfl
  simpa using this
theorem int1 (μ:M) (l:List Value) (x:Int) (h:Mo.cs μ l x):l=[.int .i64 x]:=h
theorem contains_i_c {v:Value} {l:List Int} {x:Int} (h:Cells1 w v (l.map (Value.int .i64))):CallsV prog 66 [v,.int .i64 x] w (fun v w'=>v=.bool (l.contains x)∧w'=w):=by
 rcases h with ⟨h1,a,c,rfl⟩ | ⟨b,o,c,rfl,hl,hc⟩
 ·obtain rfl:l=[]:=List.map_eq_nil_iff.1 h1
  exact ⟨(slices_Contains_int_empty a c x w).mono fun e w' he=>by
   obtain ⟨rfl,rfl⟩:=he
   exact ⟨rfl,rfl⟩⟩
 ·refine ⟨(slices_Contains_int b o (l.map (Value.int .i64)).length c l x w (by simp) hl ?_).mono fun e w' he=>?_⟩
  ·intro j hj
   rw [hc j (.int .i64 l[j]) (by simp [hj])]
   simp [List.getElem?_eq_getElem hj]
  ·obtain ⟨rfl,rfl⟩:=he
   refine ⟨?_,rfl⟩
   rw [List.take_of_length_le (by simp)]
theorem clone_i_c {v:Value} {l:List Int} (hl:l.length≤65536) (h:Cells1 w v (l.map (Value.int .i64))) (hS:Sq μ0 w0 w rs) :
  CallsV prog 59 [v] w (fun v' w'=>Sq μ0 w0 w' (.row v' 3 1 l.length (l.map (Value.int .i64))::rs)):=by
 rcases h with ⟨h1,a,c,rfl⟩ | ⟨b,o,c,rfl,hll,hc⟩
 ·obtain rfl:l=[]:=List.map_eq_nil_iff.1 h1
  cases a with
  | none=>exact ⟨(slices_Clone_int_nil 0 c w).mono fun e w' he=>by
    obtain ⟨rfl,rfl⟩:=he
    exact hS.nilRow 3 1⟩
  | some a=>exact ⟨(slices_Clone_int_zero a c w).mono fun e w' he=>by
    obtain ⟨v',rfl,ho,-,hb⟩:=he
    obtain ⟨hr,hk⟩:=row_of_owns ho
    exact hS.newRow ⟨hb.os,hb.tape,hb.output,hb.size,fun k hk _=>hb.block k hk⟩ hr hk⟩
 ·refine ⟨(slices_Clone_int b o (l.map (Value.int .i64)).length c l w (by simp) (by simp; omega) ?_).mono fun e w' he=>?_⟩
  ·intro j hj
   rw [hc j (.int .i64 l[j]) (by simp [hj])]
   simp [List.getElem?_eq_getElem hj]
  ·obtain ⟨v',rfl,ho,-,hb⟩:=he
   rw [List.take_of_length_le (by simp),List.length_map] at ho
   obtain ⟨hr,hk⟩:=row_of_owns ho
   exact hS.newRow ⟨hb.os,hb.tape,hb.output,hb.size,fun k hk _=>hb.block k hk⟩ hr hk
theorem clone_b_c {v:Value} {l:List Bool} (hl:l.length≤65536) (h:Cells1 w v (l.map Value.bool)) (hS:Sq μ0 w0 w rs) :
  CallsV prog 60 [v] w (fun v' w'=>Sq μ0 w0 w' (.row v' 4 1 l.length (l.map Value.bool)::rs)):=by
 rcases h with ⟨h1,a,c,rfl⟩ | ⟨b,o,c,rfl,hll,hc⟩
 ·obtain rfl:l=[]:=List.map_eq_nil_iff.1 h1
  cases a with
  | none=>exact ⟨(slices_Clone_nil_f60 0 c w).mono fun e w' he=>by
    obtain ⟨rfl,rfl⟩:=he
    exact hS.nilRow 4 1⟩
  | some a =>
   refine enter func60 rfl (frm:=[_,_,_,_,_,_,_,_]) rfl ?_
   refine cseq ?_
   refine creg ?_
   refine wl (s_assign ec (dt p2) ?_)
   refine wnil ?_
   refine xn ?_
   refine cseq ?_
   refine cseq ?_
   refine creg ?_
   refine wl (s_move (et d0) (dt p3) ?_)
   refine wl (s_eqnsl underlying90 (et d3) (dt p4) ?_)
   refine wnil ?_
   refine xn ?_
   refine ciff (et d4) ?_
   refine cskip ?_
   refine xn ?_
   refine cseq ?_
   refine creg ?_
   refine wl (s_bsl0 underlying90 ti4 hS ?_); clear hS; intro b5 w1 hb5 hS; refine pu (dt p5) ?_
   replace hS:=hS.blkRow (n:=0) (sz:=Mo.sz Bool) d0 rfl (by decide) p0
   refine wl (s_move (et d0) (dt p6) ?_)
   refine wl (s_appS (α:=Bool) (l:=[]) (ys:=[]) (news:=[]) underlying90 ti4 rfl (et d5) (et d6) hS d0 (fun e=>absurd rfl e) rfl (show app [] []=some [] from rfl) (by decide) ?_); clear hS; intro v2 w2 rs_ hp_ hS; cases (show _=rs_ from hp_)
   replace hS:=Sep.reput hS p0; refine pu (dt p7) ?_
   refine wl (s_assign (et d7) (dt p2) ?_)
   refine wnil ?_
   refine xn ?_
   refine cret ?_
   refine ret1 rfl d2 ?_
   exact hS
 ·have hi:∃ i z,prog.info? 4=some i∧i.zero=some z∧i.size=1∧i.bytes=1∧z.cells.size=1:=by
   obtain ⟨i,z,h1,h2,h3,h4,h5⟩:=(ti4).inf
   exact ⟨i,z,h1,h2,h4,h5,by rw [h3]; rfl⟩
  obtain ⟨i,z,h1,h2,h3,h4,h5⟩:=hi
  refine ⟨(slices_Clone_f60 i z 1 1 h1 h2 h3 h4 h5 (by decide) (fun w=>(ti4).sizeOf) b o (l.map Value.bool).length c (l.map Value.bool) w (by simp) (by simp [maxLen]; omega) (by simp; omega) hc (fun u hu=>?_)).mono fun e w' he=>?_⟩
  ·obtain ⟨x,-,rfl⟩:=List.mem_map.1 hu; rfl
  ·obtain ⟨v',rfl,ho,-,hb⟩:=he
   rw [List.length_map] at ho
   obtain ⟨hr,hk⟩:=row_of_owns ho
   exact hS.newRow ⟨hb.os,hb.tape,hb.output,hb.size,fun k hk _=>hb.block k hk⟩ hr hk
theorem bool1 (μ:M) (l:List Value) (x:Bool) (h:Mo.cs μ l x):l=[.bool x]:=h
theorem rw_of_map {α:Type} [Mo α] {f:α→Value} (hf:∀ (μ:M) (x:α),Mo.cs μ [f x] x):∀ (l:List α),Rw μ (l.map f) l
 | []=>rfl
 | x::l=>⟨[f x],_,rfl,hf μ x,rw_of_map hf l⟩
end
end Go.Proofs.YtppgfpelddpnbaaGreatDoor
