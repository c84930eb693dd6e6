/- Texts of Fl. -/
import Derived.Test.YteiemedhecjgiaaDoorCXt
import Derived.Test.YteiemedhecjgiaaDoorProg
import Derived.KernelRfl
import Derived.Shelf.Strconv.Itoa0
import Derived.Shelf.Strconv.Itoa1
import Derived.Shelf.LaysM
import Derived.Shelf.Strconv.Itoa2
import Derived.Shelf.Strconv.Itoa3
import Derived.Shelf.Strconv.Itoa4
import Derived.Shelf.Strings.Search1
import Derived.Shelf.Strings.Search2
import Derived.Shelf.Strings.Search3
import Derived.Shelf.Strings.Shaped
import Derived.Test.YteiemedhecjgiaaDoorCMd
import Derived.Test.YteiemedhecjgiaaDoorCXu
import Derived.Lib.LaidTab
import Derived.Lib.Builder
set_option linter.unusedSimpArgs false
set_option linter.unusedVariables false
set_option linter.unusedSectionVars false
namespace Go.Proofs.YteiemedhecjgiaaDoor
open Go.Wk Go.Xt Tryd
instance isfn4:IsFn prog 4:=isf func4
instance isfn5:IsFn prog 5:=isf func5
instance isfn6:IsFn prog 6:=isf func6
instance isfn7:IsFn prog 7:=isf func7
instance isfn8:IsFn prog 8:=isf func8
instance isfn9:IsFn prog 9:=isf func9
instance isfn10:IsFn prog 10:=isf func10
instance isfn11:IsFn prog 11:=isf func11
instance isfn12:IsFn prog 12:=isf func12
instance isfn13:IsFn prog 13:=isf func13
instance isfn14:IsFn prog 14:=isf func14
instance isfn15:IsFn prog 15:=isf func15
instance isfn16:IsFn prog 16:=isf func16
instance isfn17:IsFn prog 17:=isf func17
instance isfn18:IsFn prog 18:=isf func18
instance isfn20:IsFn prog 20:=isf func20
instance isfn21:IsFn prog 21:=isf func21
instance isfn22:IsFn prog 22:=isf func22
instance isfn23:IsFn prog 23:=isf func23
instance isfn24:IsFn prog 24:=isf func24
instance isfn25:IsFn prog 25:=isf func25
instance isfn26:IsFn prog 26:=isf func26
instance isfn27:IsFn prog 27:=isf func27
instance isfn28:IsFn prog 28:=isf func28
instance isfn29:IsFn prog 29:=isf func29
instance isfn30:IsFn prog 30:=isf func30
instance isfn31:IsFn prog 31:=isf func31
instance isfn33:IsFn prog 33:=isf func33
instance isfn34:IsFn prog 34:=isf func34
instance isfn35:IsFn prog 35:=isf func35
instance isfn36:IsFn prog 36:=isf func36
instance isfn37:IsFn prog 37:=isf func37
instance isfn38:IsFn prog 38:=isf func38
instance isfn39:IsFn prog 39:=isf func39
instance isfn40:IsFn prog 40:=isf func40
instance isfn41:IsFn prog 41:=isf func41
instance isfn42:IsFn prog 42:=isf func42
instance isfn43:IsFn prog 43:=isf func43
instance isfn44:IsFn prog 44:=isf func44
instance isfn45:IsFn prog 45:=isf func45
instance isfn46:IsFn prog 46:=isf func46
instance isfn52:IsFn prog 52:=isf func52
instance isfn53:IsFn prog 53:=isf func53
instance isfn55:IsFn prog 55:=isf func55
instance isfn56:IsFn prog 56:=isf func56
instance isfn63:IsFn prog 63:=isf func63
instance isfn64:IsFn prog 64:=isf func64
instance ti2:TI prog 2 false [.int .i64 0] 1 8:=tj (z:=.int .i64 0) underlying2
instance ti3:TI prog 3 false [.int .i64 0] 1 8:=tj (z:=.int .i64 0) underlying3
instance ti5:TI prog 5 false [.int .u8 0] 1 1:=tj (z:=.int .u8 0) underlying5
instance ti9:TI prog 9 false [S []] 1 16:=tj (z:=S []) underlying9
instance ti23:TI prog 23 false [.int .i64 0] 1 8:=tj (z:=.int .i64 0) underlying23
instance ti25:TI prog 25 true [.int .i64 0,.int .i64 0] 2 16:=tj (z:=.agg #[.int .i64 0,.int .i64 0]) underlying25
instance ti31:TI prog 31 false [.pointer none] 1 8:=tj (z:=.pointer none) underlying31
instance ti32:TI prog 32 false [.slice none 0 0] 1 24:=tj (z:=.slice none 0 0) underlying32
instance ti34:TI prog 34 true [.pointer none,.slice none 0 0] 2 32:=tj (z:=.agg #[.pointer none,.slice none 0 0]) underlying34
instance ti36:TI prog 36 true [.pointer none,.slice none 0 0] 2 32:=tj (z:=.agg #[.pointer none,.slice none 0 0]) underlying36
instance ti40:TI prog 40 true [.int .i64 0,S []] 2 24:=tj (z:=.agg #[.int .i64 0,S []]) underlying40
instance ti41:TI prog 41 false [.slice none 0 0] 1 24:=tj (z:=.slice none 0 0) underlying41
instance ti42:TI prog 42 false [.slice none 0 0] 1 24:=tj (z:=.slice none 0 0) underlying42
instance ti44:TI prog 44 true [.int .i64 0,S [],.int .i64 0,S [],.int .i64 0,S [],.int .i64 0,.slice none 0 0,.slice none 0 0] 9 128:=tj (z:=.agg #[.int .i64 0,S [],.int .i64 0,S [],.int .i64 0,S [],.int .i64 0,.slice none 0 0,.slice none 0 0]) underlying44
instance ti51:TI prog 51 true [S [],.int .i64 0,S []] 3 40:=tj (z:=.agg #[S [],.int .i64 0,S []]) underlying51
instance ti54:TI prog 54 true [.int .i64 0] 1 8:=tj (z:=.agg #[.int .i64 0]) underlying54
instance ti58:TI prog 58 true [.int .i64 0] 1 8:=tj (z:=.agg #[.int .i64 0]) underlying58
instance ti64:TI prog 64 false [.slice none 0 0] 1 24:=tj (z:=.slice none 0 0) underlying64
instance ti65:TI prog 65 false [.slice none 0 0] 1 24:=tj (z:=.slice none 0 0) underlying65
instance ti67:TI prog 67 true [.int .i64 0,.int .i64 0,S [],.slice none 0 0] 4 56:=tj (z:=.agg #[.int .i64 0,.int .i64 0,S [],.slice none 0 0]) underlying67
instance ti69:TI prog 69 true [.int .i64 0,S [],.int .i64 0,.int .i64 0,S [],.slice none 0 0,.slice none 0 0,.slice none 0 0] 8 128:=tj (z:=.agg #[.int .i64 0,S [],.int .i64 0,.int .i64 0,S [],.slice none 0 0,.slice none 0 0,.slice none 0 0]) underlying69
instance ti118:TI prog 118 false [.map none] 1 8:=tj (z:=.map none) underlying118
instance ti120:TI prog 120 true [.map none,.bool false] 2 16:=tj (z:=.agg #[.map none,.bool false]) underlying120
theorem eg25:prog.eqGuardType prog.depth 25=false:=by kernel_rfl
theorem eh25:prog.stoodInHeld 25=false:=by kernel_rfl
instance fa120_0:FA prog 120 0 0:=fa_of underlying120 rfl rfl rfl ti118 rfl
instance fa25_0:FA prog 25 0 0:=fa_of underlying25 rfl rfl rfl ti23 rfl
instance fa34_0:FA prog 34 0 0:=fa_of underlying34 rfl rfl rfl ti31 rfl
instance fa34_1:FA prog 34 1 1:=fa_of underlying34 rfl rfl rfl ti32 rfl
instance fa36_0:FA prog 36 0 0:=fa_of underlying36 rfl rfl rfl ti34 rfl
instance fa40_0:FA prog 40 0 0:=fa_of underlying40 rfl rfl rfl ti3 rfl
instance fa40_1:FA prog 40 1 1:=fa_of underlying40 rfl rfl rfl ti9 rfl
instance fa44_0:FA prog 44 0 0:=fa_of underlying44 rfl rfl rfl ti3 rfl
instance fa44_1:FA prog 44 1 1:=fa_of underlying44 rfl rfl rfl ti9 rfl
instance fa44_2:FA prog 44 2 2:=fa_of underlying44 rfl rfl rfl ti40 rfl
instance fa44_3:FA prog 44 3 4:=fa_of underlying44 rfl rfl rfl ti40 rfl
instance fa44_4:FA prog 44 4 6:=fa_of underlying44 rfl rfl rfl ti3 rfl
instance fa44_5:FA prog 44 5 7:=fa_of underlying44 rfl rfl rfl ti41 rfl
instance fa44_6:FA prog 44 6 8:=fa_of underlying44 rfl rfl rfl ti42 rfl
instance fa51_0:FA prog 51 0 0:=fa_of underlying51 rfl rfl rfl ti9 rfl
instance fa51_1:FA prog 51 1 1:=fa_of underlying51 rfl rfl rfl ti40 rfl
instance fa54_0:FA prog 54 0 0:=fa_of underlying54 rfl rfl rfl ti3 rfl
instance fa58_0:FA prog 58 0 0:=fa_of underlying58 rfl rfl rfl ti3 rfl
instance fa67_0:FA prog 67 0 0:=fa_of underlying67 rfl rfl rfl ti3 rfl
instance fa67_1:FA prog 67 1 1:=fa_of underlying67 rfl rfl rfl ti2 rfl
instance fa67_2:FA prog 67 2 2:=fa_of underlying67 rfl rfl rfl ti9 rfl
instance fa67_3:FA prog 67 3 3:=fa_of underlying67 rfl rfl rfl ti65 rfl
instance fa69_0:FA prog 69 0 0:=fa_of underlying69 rfl rfl rfl ti3 rfl
instance fa69_1:FA prog 69 1 1:=fa_of underlying69 rfl rfl rfl ti9 rfl
instance fa69_2:FA prog 69 2 2:=fa_of underlying69 rfl rfl rfl ti67 rfl
instance fa69_3:FA prog 69 3 6:=fa_of underlying69 rfl rfl rfl ti42 rfl
instance fa69_4:FA prog 69 4 7:=fa_of underlying69 rfl rfl rfl ti42 rfl
theorem pl120:PL prog 120 #[(0,1),(1,1)]:=pl_of underlying120 (fun _=>by kernel_rfl)
theorem pl25:PL prog 25 #[(0,1),(1,1)]:=pl_of underlying25 (fun _=>by kernel_rfl)
theorem pl36:PL prog 36 #[(0,2)]:=pl_of underlying36 (fun _=>by kernel_rfl)
theorem pl54:PL prog 54 #[(0,1)]:=pl_of underlying54 (fun _=>by kernel_rfl)
theorem pl58:PL prog 58 #[(0,1)]:=pl_of underlying58 (fun _=>by kernel_rfl)
theorem zv9:∀ w,(zeroValue 9).run prog w=.ok (S []) w:=zv_of (by kernel_rfl)
end Go.Proofs.YteiemedhecjgiaaDoor
namespace Go.Proofs
open Go.Shelf
def Tryd.laysM171_ren:Go.Shelf.Ren:=⟨fun | 171=>12 | 243=>19 | 246=>32 | 283=>47 | 284=>48 | 285=>49 | 286=>50 | 129=>58 | 317=>57 | 318=>59 | 319=>60 | 320=>61 | 337=>65 | 338=>66 | n=>n,fun | 3=>3 | 9=>9 | 2=>2 | 4=>4 | 171=>94 | 0=>0 | 53=>95 | 37=>32 | 5=>5 | 173=>98 | 212=>111 | 51=>112 | 20=>20 | 213=>113 | 46=>114 | 232=>123 | 233=>124 | n=>n,fun | 17=>0 | 18=>2 | 19=>3 | n=>n⟩
theorem Tryd.laysM171:Go.Proofs.LaysM.n171 Tryd.prog Tryd.laysM171_ren:={
 mixed:=by kernel_rfl
 f129:=Tryd.func58.trans (congrArg some (by kernel_rfl))
 f171:=Tryd.func12.trans (congrArg some (by kernel_rfl))
 f243:=Tryd.func19.trans (congrArg some (by kernel_rfl))
 f246:=Tryd.func32.trans (congrArg some (by kernel_rfl))
 f283:=Tryd.func47.trans (congrArg some (by kernel_rfl))
 f284:=Tryd.func48.trans (congrArg some (by kernel_rfl))
 f285:=Tryd.func49.trans (congrArg some (by kernel_rfl))
 f286:=Tryd.func50.trans (congrArg some (by kernel_rfl))
 f317:=Tryd.func57.trans (congrArg some (by kernel_rfl))
 f318:=Tryd.func59.trans (congrArg some (by kernel_rfl))
 f319:=Tryd.func60.trans (congrArg some (by kernel_rfl))
 f320:=Tryd.func61.trans (congrArg some (by kernel_rfl))
 f337:=Tryd.func65.trans (congrArg some (by kernel_rfl))
 f338:=Tryd.func66.trans (congrArg some (by kernel_rfl))
 t0:=Tryd.underlying0
 a0:=Tryd.isAgg0
 z0:=Tryd.sizeOf0
 v0:=Tryd.zeroValue0
 t2:=Tryd.underlying2
 a2:=Tryd.isAgg2
 z2:=Tryd.sizeOf2
 v2:=Tryd.zeroValue2
 t3:=Tryd.underlying3
 a3:=Tryd.isAgg3
 z3:=Tryd.sizeOf3
 v3:=Tryd.zeroValue3
 t4:=Tryd.underlying4
 a4:=Tryd.isAgg4
 z4:=Tryd.sizeOf4
 v4:=Tryd.zeroValue4
 t5:=Tryd.underlying5
 a5:=Tryd.isAgg5
 z5:=Tryd.sizeOf5
 v5:=Tryd.zeroValue5
 t9:=Tryd.underlying9
 a9:=Tryd.isAgg9
 z9:=Tryd.sizeOf9
 v9:=Tryd.zeroValue9
 t20:=Tryd.underlying20
 a20:=Tryd.isAgg20
 z20:=Tryd.sizeOf20
 v20:=Tryd.zeroValue20
 t37:=Tryd.underlying32
 a37:=Tryd.isAgg32
 z37:=Tryd.sizeOf32
 v37:=Tryd.zeroValue32
 t46:=Tryd.underlying114
 a46:=Tryd.isAgg114
 z46:=Tryd.sizeOf114
 v46:=Tryd.zeroValue114
 t51:=Tryd.underlying112
 a51:=Tryd.isAgg112
 z51:=Tryd.sizeOf112
 v51:=Tryd.zeroValue112
 t53:=Tryd.underlying95
 a53:=Tryd.isAgg95
 z53:=Tryd.sizeOf95
 v53:=Tryd.zeroValue95
 t171:=Tryd.underlying94
 a171:=Tryd.isAgg94
 z171:=Tryd.sizeOf94
 v171:=Tryd.zeroValue94
 t173:=Tryd.underlying98
 a173:=Tryd.isAgg98
 z173:=Tryd.sizeOf98
 v173:=Tryd.zeroValue98
 t212:=Tryd.underlying111
 a212:=Tryd.isAgg111
 z212:=Tryd.sizeOf111
 v212:=Tryd.zeroValue111
 t213:=Tryd.underlying113
 a213:=Tryd.isAgg113
 z213:=Tryd.sizeOf113
 t232:=Tryd.underlying123
 a232:=Tryd.isAgg123
 z232:=Tryd.sizeOf123
 v232:=Tryd.zeroValue123
 t233:=Tryd.underlying124
 a233:=Tryd.isAgg124
 z233:=Tryd.sizeOf124
 v233:=Tryd.zeroValue124
 g17:=by kernel_rfl
 g18:=by kernel_rfl
 g19:=by kernel_rfl
 i0:=by kernel_rfl
 i2:=by kernel_rfl
 i3:=by kernel_rfl
 i4:=by kernel_rfl
 i5:=by kernel_rfl
 i9:=by kernel_rfl
 i20:=by kernel_rfl
 i37:=by kernel_rfl
 i46:=by kernel_rfl
 i51:=by kernel_rfl
 i53:=by kernel_rfl
 i171:=by kernel_rfl
 i173:=by kernel_rfl
 i212:=by kernel_rfl
 i232:=by kernel_rfl
 i233:=by kernel_rfl
 m17:=by kernel_rfl
 m18:=by kernel_rfl
 m19:=by kernel_rfl }
open Go.RowKit Go.Sort Go.Lib in
theorem Tryd.strconv_Itoa (n : Int) (h0 : -9223372036854775808 ≤ n) (h1 : n ≤ 9223372036854775807) (w : World) (htab : Lib.TabIs Tryd.prog w "internal/strconv.uint64pow10" .u64 Lib.pow10Tab) :
  Calls Tryd.prog 12 #[.int .i64 n] w fun e w'=>e=.returned (.string ⟨(Lib.itoa n).toArray⟩)∧∃ k os,w'=grow (w.drewN k) os:=Any.strconv_Itoa Tryd.laysM171 n h0 h1 w htab
def Tryd.laysM173_ren:Go.Shelf.Ren:=⟨fun | 173=>33 | 246=>32 | 283=>47 | 284=>48 | 285=>49 | 286=>50 | 129=>58 | 317=>57 | 318=>59 | 319=>60 | 320=>61 | 337=>65 | 338=>66 | n=>n,fun | 2=>2 | 3=>3 | 9=>9 | 4=>4 | 171=>94 | 0=>0 | 53=>95 | 37=>32 | 5=>5 | 173=>98 | 212=>111 | 51=>112 | 20=>20 | 213=>113 | 46=>114 | 232=>123 | 233=>124 | n=>n,fun | 17=>0 | 18=>2 | 19=>3 | n=>n⟩
theorem Tryd.laysM173:Go.Proofs.LaysM.n173 Tryd.prog Tryd.laysM173_ren:={
 mixed:=by kernel_rfl
 f129:=Tryd.func58.trans (congrArg some (by kernel_rfl))
 f173:=Tryd.func33.trans (congrArg some (by kernel_rfl))
 f246:=Tryd.func32.trans (congrArg some (by kernel_rfl))
 f283:=Tryd.func47.trans (congrArg some (by kernel_rfl))
 f284:=Tryd.func48.trans (congrArg some (by kernel_rfl))
 f285:=Tryd.func49.trans (congrArg some (by kernel_rfl))
 f286:=Tryd.func50.trans (congrArg some (by kernel_rfl))
 f317:=Tryd.func57.trans (congrArg some (by kernel_rfl))
 f318:=Tryd.func59.trans (congrArg some (by kernel_rfl))
 f319:=Tryd.func60.trans (congrArg some (by kernel_rfl))
 f320:=Tryd.func61.trans (congrArg some (by kernel_rfl))
 f337:=Tryd.func65.trans (congrArg some (by kernel_rfl))
 f338:=Tryd.func66.trans (congrArg some (by kernel_rfl))
 t0:=Tryd.underlying0
 a0:=Tryd.isAgg0
 z0:=Tryd.sizeOf0
 v0:=Tryd.zeroValue0
 t2:=Tryd.underlying2
 a2:=Tryd.isAgg2
 z2:=Tryd.sizeOf2
 v2:=Tryd.zeroValue2
 t3:=Tryd.underlying3
 a3:=Tryd.isAgg3
 z3:=Tryd.sizeOf3
 v3:=Tryd.zeroValue3
 t4:=Tryd.underlying4
 a4:=Tryd.isAgg4
 z4:=Tryd.sizeOf4
 v4:=Tryd.zeroValue4
 t5:=Tryd.underlying5
 a5:=Tryd.isAgg5
 z5:=Tryd.sizeOf5
 v5:=Tryd.zeroValue5
 t9:=Tryd.underlying9
 a9:=Tryd.isAgg9
 z9:=Tryd.sizeOf9
 v9:=Tryd.zeroValue9
 t20:=Tryd.underlying20
 a20:=Tryd.isAgg20
 z20:=Tryd.sizeOf20
 v20:=Tryd.zeroValue20
 t37:=Tryd.underlying32
 a37:=Tryd.isAgg32
 z37:=Tryd.sizeOf32
 v37:=Tryd.zeroValue32
 t46:=Tryd.underlying114
 a46:=Tryd.isAgg114
 z46:=Tryd.sizeOf114
 v46:=Tryd.zeroValue114
 t51:=Tryd.underlying112
 a51:=Tryd.isAgg112
 z51:=Tryd.sizeOf112
 v51:=Tryd.zeroValue112
 t53:=Tryd.underlying95
 a53:=Tryd.isAgg95
 z53:=Tryd.sizeOf95
 v53:=Tryd.zeroValue95
 t171:=Tryd.underlying94
 a171:=Tryd.isAgg94
 z171:=Tryd.sizeOf94
 v171:=Tryd.zeroValue94
 t173:=Tryd.underlying98
 a173:=Tryd.isAgg98
 z173:=Tryd.sizeOf98
 v173:=Tryd.zeroValue98
 t212:=Tryd.underlying111
 a212:=Tryd.isAgg111
 z212:=Tryd.sizeOf111
 v212:=Tryd.zeroValue111
 t213:=Tryd.underlying113
 a213:=Tryd.isAgg113
 z213:=Tryd.sizeOf113
 t232:=Tryd.underlying123
 a232:=Tryd.isAgg123
 z232:=Tryd.sizeOf123
 v232:=Tryd.zeroValue123
 t233:=Tryd.underlying124
 a233:=Tryd.isAgg124
 z233:=Tryd.sizeOf124
 v233:=Tryd.zeroValue124
 g17:=by kernel_rfl
 g18:=by kernel_rfl
 g19:=by kernel_rfl
 i0:=by kernel_rfl
 i2:=by kernel_rfl
 i3:=by kernel_rfl
 i4:=by kernel_rfl
 i5:=by kernel_rfl
 i9:=by kernel_rfl
 i20:=by kernel_rfl
 i37:=by kernel_rfl
 i46:=by kernel_rfl
 i51:=by kernel_rfl
 i53:=by kernel_rfl
 i171:=by kernel_rfl
 i173:=by kernel_rfl
 i212:=by kernel_rfl
 i232:=by kernel_rfl
 i233:=by kernel_rfl
 m17:=by kernel_rfl
 m18:=by kernel_rfl
 m19:=by kernel_rfl }
open Go.RowKit Go.Sort Go.Lib in
theorem Tryd.strconv_FormatInt_10 (n : Int) (h0 : -9223372036854775808 ≤ n) (h1 : n ≤ 9223372036854775807) (w : World) (htab : Lib.TabIs Tryd.prog w "internal/strconv.uint64pow10" .u64 Lib.pow10Tab) :
  Calls Tryd.prog 33 #[.int .i64 n,.int .i64 10] w fun e w'=>e=.returned (.string ⟨(Lib.itoa n).toArray⟩)∧∃ k os,w'=grow (w.drewN k) os:=Any.strconv_FormatInt_10 Tryd.laysM173 n h0 h1 w htab
def Tryd.lays144_ren:Go.Shelf.Ren:=⟨fun | 144=>37 | 143=>51 | 219=>62 | 217=>67 | 225=>68 | 224=>69 | 267=>70 | 266=>71 | 314=>72 | n=>n,fun | 9=>9 | 4=>4 | 3=>3 | 5=>5 | 46=>114 | 146=>125 | 51=>112 | n=>n,fun | 1=>1 | n=>n⟩
theorem Tryd.lays144:Go.Proofs.Lays.n144 Tryd.prog Tryd.lays144_ren:={
 mixed:=by kernel_rfl
 f143:=Tryd.func51.trans (congrArg some (by kernel_rfl))
 f144:=Tryd.func37.trans (congrArg some (by kernel_rfl))
 f217:=Tryd.func67.trans (congrArg some (by kernel_rfl))
 f219:=Tryd.func62.trans (congrArg some (by kernel_rfl))
 f224:=Tryd.func69.trans (congrArg some (by kernel_rfl))
 f225:=Tryd.func68.trans (congrArg some (by kernel_rfl))
 f266:=Tryd.func71.trans (congrArg some (by kernel_rfl))
 f267:=Tryd.func70.trans (congrArg some (by kernel_rfl))
 f314:=Tryd.func72.trans (congrArg some (by kernel_rfl))
 t3:=Tryd.underlying3
 a3:=Tryd.isAgg3
 z3:=Tryd.sizeOf3
 v3:=Tryd.zeroValue3
 t4:=Tryd.underlying4
 a4:=Tryd.isAgg4
 z4:=Tryd.sizeOf4
 v4:=Tryd.zeroValue4
 t5:=Tryd.underlying5
 a5:=Tryd.isAgg5
 z5:=Tryd.sizeOf5
 v5:=Tryd.zeroValue5
 t9:=Tryd.underlying9
 a9:=Tryd.isAgg9
 z9:=Tryd.sizeOf9
 v9:=Tryd.zeroValue9
 t46:=Tryd.underlying114
 a46:=Tryd.isAgg114
 z46:=Tryd.sizeOf114
 v46:=Tryd.zeroValue114
 t51:=Tryd.underlying112
 a51:=Tryd.isAgg112
 z51:=Tryd.sizeOf112
 v51:=Tryd.zeroValue112
 t146:=Tryd.underlying125
 a146:=Tryd.isAgg125
 z146:=Tryd.sizeOf125
 v146:=Tryd.zeroValue125
 g1:=by kernel_rfl }
open Go.RowKit Go.Lib in
theorem Tryd.strings_Contains (s sub:ByteArray) (m:Int) (w:World) (hs:s.size<4294967281) (hm:w.cell? ⟨1,0,none⟩=some (.int .i64 m)) :
  Calls Tryd.prog 37 #[.string s,.string sub] w fun e w'=>e=.returned (.bool (Lib.contains s.data.toList sub.data.toList))∧w'=w:=Any.strings_Contains Tryd.lays144 s sub m w hs hm
end Go.Proofs
namespace Go.Proofs.YteiemedhecjgiaaDoor
open Go.Wk Go.Xt Go.Y Tryd
def Gm : M := fun w => (∃ m, w.cell? ⟨1, 0, none⟩ = some (.int .i64 m)) ∧ Lib.TabIs prog w "internal/strconv.uint64pow10" .u64 Lib.pow10Tab
theorem scont_w {μ0:M} {w0 w:World} {rsF:List Res} {l sub:List UInt8} {b:Bool} (hg:Le Gm μ0) (g:scont l sub=some b) (hS:Sq μ0 w0 w rsF) :
  CallsV prog 37 [S l,S sub] w (fun v w'=>v=.bool b∧Sq μ0 w0 w' rsF):=by
 unfold scont at g
 split at g
 ·rename_i hl
  obtain rfl:=Option.some.inj g
  obtain ⟨⟨m,hm⟩,-⟩:=hg w hS.a
  refine ⟨(strings_Contains ⟨⟨l⟩⟩ ⟨⟨sub⟩⟩ m w hl hm).mono fun e w' he=>?_⟩
  obtain ⟨rfl,rfl⟩:=he
  exact ⟨rfl,hS⟩
 ·cases g
theorem grow_growN (w:World) (n:Nat) (os:Array Obj):Grow w (Go.Sort.grow (w.drewN n) os):=⟨rfl,rfl,rfl,by simp [Go.Sort.grow],fun k hk _=>by
 simp only [Go.Sort.grow,World.heap_drewN]
 exact Array.getElem?_append_left hk⟩
theorem fmt_w {μ0:M} {w0 w:World} {rsF:List Res} {n:Int} {r:List UInt8} (hg:Le Gm μ0) (g:fmt10 n=some r) (hS:Sq μ0 w0 w rsF) :
  CallsV prog 33 [.int .i64 n,.int .i64 10] w (fun v w'=>v=S r∧Sq μ0 w0 w' rsF):=by
 unfold fmt10 at g
 split at g
 ·rename_i h
  obtain rfl:=Option.some.inj g
  obtain ⟨-,ht⟩:=hg w hS.a
  refine ⟨(strconv_FormatInt_10 n h.1 h.2 w ht).mono fun e w' he=>?_⟩
  obtain ⟨rfl,k,os,rfl⟩:=he
  exact ⟨rfl,hS.grow (grow_growN w k os)⟩
 ·cases g
theorem itoa_w {μ0:M} {w0 w:World} {rsF:List Res} {n:Int} {r:List UInt8} (hg:Le Gm μ0) (g:fmt10 n=some r) (hS:Sq μ0 w0 w rsF) :
  CallsV prog 12 [.int .i64 n] w (fun v w'=>v=S r∧Sq μ0 w0 w' rsF):=by
 unfold fmt10 at g
 split at g
 ·rename_i h
  obtain rfl:=Option.some.inj g
  obtain ⟨-,ht⟩:=hg w hS.a
  refine ⟨(strconv_Itoa n h.1 h.2 w ht).mono fun e w' he=>?_⟩
  obtain ⟨rfl,k,os,rfl⟩:=he
  exact ⟨rfl,hS.grow (grow_growN w k os)⟩
 ·cases g
end Go.Proofs.YteiemedhecjgiaaDoor
set_option maxRecDepth 100000
namespace Go.Proofs.YteiemedhecjgiaaDoor
open Go.Wk Go.Xt Go.RowKit
section
variable {P:Program} {Q:Exit→Act→World→Prop} {K:List Value→List Deferred→World→Prop} {fr fr':List Value} {ds:List Deferred} {w:World} {dst:Option Tmp} {ty:TypeId} {pos:String} {after:Array Edge} {g:Option (Nat×Bool)}
theorem s_neqp {x y:Operand} {t t' te:TypeId} {j:TypeInfo} {a:Addr} (hp:P.underlying t=some (.pointer te)) (hte:P.info? te=some j)
  (hx:Ev fr x (.pointer (some a))) (hy:Ev fr y (.pointer (some a))) (hd:Dt fr dst (.bool false) fr') (h:K fr' ds w):OW P (Oper.mk dst (.binOp .neq t x y t') ty pos after g) fr ds w K Q:=by
 refine op_v (w':=w) ?_ hd h
 have e1:=hx ds
 have e2:=hy ds
 have e3:=Lib.run_neq_ptr_same (P:=P) w a hp hte
 simp [execOp,e1,e2,eqGuard,e3]
theorem s_nilp {x:Operand} {t t' te:TypeId} {a:Addr} (hp:P.underlying t=some (.pointer te))
  (hx:Ev fr x (.pointer (some a))) (hd:Dt fr dst (.bool false) fr') (h:K fr' ds w):OW P (Oper.mk dst (.binOp .eql t x (.const (.pointer none)) t') ty pos after g) fr ds w K Q:=by
 refine op_v (w':=w) ?_ hd h
 have e1:=hx ds
 have e2:(F fr ds).eval (.const (.pointer none))=.pointer none:=rfl
 have e3:∀ d:Nat,(Op.equalIn (d+1) t (.pointer (some a)) (.pointer none)).run P w=.ok false w:=fun d=>by
  simp [Op.equalIn,run_underlying hp]
 have e4:(Op.equalIn Op.maxDepth t (.pointer (some a)) (.pointer none)).run P w=.ok false w:=e3 9999
 simp [execOp,e1,e2,eqGuard,binOp,Op.equal,e4]
theorem s_toun {x:Operand} {src dt_ t e:TypeId} {j:TypeInfo} {cells:Nat} {a:Addr} (hs:P.underlying src=some (.pointer t)) (hu:P.underlying dt_=some .unsafePointer) (ht:P.info? t=some j) (hj:j.size≠0)
  (hsh:w.shape? a.block=some (e,cells)) (hoff:a.off<cells) (hx:Ev fr x (.pointer (some a))) (hd:Dt fr dst (.pointer (some a)) fr') (h:K fr' ds w):OW P (Oper.mk dst (.convert src dt_ x) ty pos after g) fr ds w K Q:=by
 refine op_v (w':=w) ?_ hd h
 have e1:=hx ds
 have e3:=Lib.run_to_unsafe (P:=P) w a hs hu ht hj hsh hoff
 simp [execOp,e1,e3]
theorem s_ofun {x:Operand} {src dt_ u e:TypeId} {j:TypeInfo} {cells:Nat} {a:Addr} (hs:P.underlying src=some .unsafePointer) (hu:P.underlying dt_=some (.pointer u)) (hi:P.info? u=some j)
  (hsh:w.shape? a.block=some (e,cells)) (hlies:liesAt P P.depth e (cells / P.cellsOf e) a.off u 1=true) (hx:Ev fr x (.pointer (some a))) (hd:Dt fr dst (.pointer (some a)) fr') (h:K fr' ds w):OW P (Oper.mk dst (.convert src dt_ x) ty pos after g) fr ds w K Q:=by
 refine op_v (w':=w) ?_ hd h
 have e1:=hx ds
 have e3:=Lib.run_from_unsafe (P:=P) w a hs hu hi hsh hlies
 simp [execOp,e1,e3]
theorem s_noesc {f x : Operand} {k : FuncId} {fn : Func} {v : Value} {tys : Array TypeId} (hf : P.funcs[k]? = some fn) (hname : (fn.name == "runtime.NumGoroutine") = false) (hb : fn.body.isNone = true) (hn : Extern.findNext fn = none) (he : Extern.find fn = some Extern.AbiNoEscape.same)
  (hfo:Ev fr f (.func (.func k) #[] #[])) (hx:Ev fr x v) (hd:Dt fr dst v fr') (h:K fr' ds w):OW P (Oper.mk dst (.call { callee:=.value f,args:=⟨[x]⟩,argTypes:=tys }) ty pos after g) fr ds w K Q:=by
 refine op_v (w':=w) ?_ hd h
 have e1:=hfo ds
 have e2:=hx ds
 have e3:=run_callFunc_extern hf hname hb hn he #[v] w
 rw [Lib.run_noEscape] at e3
 simp [execOp,resolve,invoke,Deferred.ofValue,e1,e2,e3,Result.andThen]
end
section
variable {μ0:M} {w0 w:World} {rsF:List Res}
theorem sizeB:∃ j,Tryd.prog.info? 34=some j∧j.size≠0:=by
 have h:(Tryd.prog.info? 34).map (·.size)=some 2:=by kernel_rfl
 obtain ⟨j,h1,h2⟩:=Option.map_eq_some_iff.1 h
 exact ⟨j,h1,by rw [h2]; decide⟩
theorem liesB:liesAt Tryd.prog Tryd.prog.depth 36 (2 / Tryd.prog.cellsOf 36) 0 34 1=true:=by kernel_rfl
theorem bw_check {b:Nat} {av bv:Value} (hb:Bp μ0 b av) (hS:Sq μ0 w0 w (.blk b 36 [av,bv]::rsF)) :
  CallsV Tryd.prog 45 [.pointer (some ⟨b,0,none⟩)] w (fun v w'=>v=.tuple ⟨[]⟩∧Sq μ0 w0 w' (.blk b 36 [.pointer (some ⟨b,0,none⟩),bv]::rsF)):=by
 obtain ⟨j,hj,hj0⟩:=sizeB
 refine enter Tryd.func45 rfl (frm:=[_,_,_,_,_,_,_,_,_,_,_,_,_,_,_,_,_,_,_,_]) rfl ?_
 refine cseq ?_
 refine creg ?_
 refine wl (s_move (et d0) (dt p2) ?_)
 refine wl (s_nilck (et d2) (dt p3) ?_)
 refine wl (s_fa fa34_0 (et d3) rfl (dt p4) ?_)
 refine wl (s_load ti31 (et d4) ((hS.blk d0).cell d0) (dt p5) ?_)
 rcases hb with rfl | rfl
 ·refine wl (s_nilpeql Tryd.underlying31 (et d5) (dt p6) ?_)
  refine wnil ?_
  refine xn ?_
  refine cift (et d6) ?_
  refine creg ?_
  refine wl (s_move (et d0) (dt p7) ?_)
  refine wl (s_move (et d0) (dt p8) ?_)
  have hsh:w.shape? b=some (36,2):=by
   have h2:w.heap[b]?=some (.cells ⟨[.pointer none,bv]⟩ 36 (0,0)):=hS.get d0
   simp [World.shape?,h2]
  refine wl (s_toun Tryd.underlying31 Tryd.underlying105 hj hj0 hsh (Nat.zero_lt_succ 1) (et d8) (dt p9) ?_)
  refine wl (s_noesc Tryd.func54 (by kernel_rfl) (by kernel_rfl) (by kernel_rfl) (by kernel_rfl) (fun _=>rfl) (et d9) (dt (q10 p0)) ?_)
  refine wl (s_ofun Tryd.underlying105 Tryd.underlying31 hj hsh liesB (et (k10 d0)) (dt (q10 p1)) ?_)
  refine wl (s_nilck (et d7) (dt (q10 p2)) ?_)
  refine wl (s_fa fa34_0 (et (k10 d2)) rfl (dt (q10 p3)) ?_)
  refine wl (s_store1 ti31 (et (k10 d3)) (et (k10 d1)) rfl hS d0 p0 rfl p0 dn ?_)
  clear hS; intro w1 hS
  refine wnil ?_
  refine end0 rfl ?_
  exact ⟨rfl,hS⟩
 ·refine wl (s_nilp Tryd.underlying31 (et d5) (dt p6) ?_)
  refine wnil ?_
  refine xn ?_
  refine ciff (et d6) ?_
  refine cseq ?_
  refine creg ?_
  refine wl (s_move (et d0) (dt (q10 p4)) ?_)
  refine wl (s_nilck (et (k10 d4)) (dt (q10 p5)) ?_)
  refine wl (s_fa fa34_0 (et (k10 d5)) rfl (dt (q10 p6)) ?_)
  refine wl (s_load ti31 (et (k10 d6)) ((hS.blk d0).cell d0) (dt (q10 p7)) ?_)
  refine wl (s_move (et d0) (dt (q10 p8)) ?_)
  refine wl (s_neqp Tryd.underlying31 hj (et (k10 d7)) (et (k10 d8)) (dt (q10 p9)) ?_)
  refine wnil ?_
  refine xn ?_
  refine ciff (et (k10 d9)) ?_
  refine cskip ?_
  refine end0 rfl ?_
  exact ⟨rfl,hS⟩
theorem bw_string {b:Nat} {av bv:Value} {l:List UInt8} {cs:List Value} (hm:Rw μ0 cs l) (hS:Sq μ0 w0 w (.blk b 36 [av,bv]::.row bv 5 1 l.length cs::rsF)) :
  CallsV Tryd.prog 10 [.pointer (some ⟨b,0,none⟩)] w (fun v w'=>∃ (μ':M),v=S l∧Le μ0 μ'∧Sq μ' w0 w' rsF):=by
 obtain ⟨a,cap,rfl⟩:=Row.shape (hS.get d1)
 refine enter Tryd.func10 rfl (frm:=[_,_,_,_,_,_,_,_,_,_,_,_,_,_]) rfl ?_
 refine cseq ?_
 refine creg ?_
 refine wl (s_assign ec (dt p2) ?_)
 refine wnil ?_
 refine xn ?_
 refine cseq ?_
 refine cdraw (by kernel_rfl) rfl fun w1 hh_ ho_ ht_ hu_=>?_
 replace hS:=hS.drew hh_ ho_ ht_ hu_
 refine sf_start ?_
 refine sf_pu (i:=0) [0,1,2,3,4,10,11] (blind_of fun _ _ _ h=>h.2) rfl rfl rfl (u_move (et d0)) p3 ?_
 refine sf_pu (i:=1) [1,2,3,4,10,11] (blind_of fun _ _ _ h=>h.2) rfl rfl rfl (u_nilck (et d3)) p4 ?_
 refine sf_pu (i:=2) [2,3,4,10,11] (blind_of fun _ _ _ h=>h.2) rfl rfl rfl (u_fa fa34_1 (et d4) rfl) p5 ?_
 refine sf_pu (i:=5) [5,6,7,8,9,10,11] (blind_of fun _ _ _ h=>h.2) rfl rfl rfl (u_move (et d0)) p8 ?_
 refine sf_pu (i:=6) [6,7,8,9,10,11] (blind_of fun _ _ _ h=>h.2) rfl rfl rfl (u_nilck (et d8)) p9 ?_
 refine sf_pu (i:=7) [7,8,9,10,11] (blind_of fun _ _ _ h=>h.2) rfl rfl rfl (u_fa fa34_1 (et d9) rfl) (q10 p0) ?_
 refine sf_rd (i:=3) [3,4,10,11] (blind_of fun _ _ _ h=>h.2) rfl rfl rfl (u_load ti32 (et d5) ((hS.blk d0).cell d1)) p6 ?_
 refine sf_rd (i:=8) [8,9,10,11] (blind_of fun _ _ _ h=>h.2) rfl rfl rfl (u_load ti32 (et (k10 d0)) ((hS.blk d0).cell d1)) (q10 p1) ?_
 refine sf_pu (i:=9) [9,10,11] (blind_of fun _ _ _ h=>h.2) rfl rfl rfl (u_lensl Tryd.underlying32 (et (k10 d1))) (q10 p2) ?_
 refine sf1 rfl rfl rfl rfl (wn0 rfl) (s_usd Tryd.underlying63 rfl (et d6) hS d1 ?_)
 clear hS; intro w2 p hp hS; refine pu (dt p7) ?_
 refine ⟨(Mons.s (u_load ti32 (et (k10 d0)) ((hS.blk d0).cell d1)) Mons.z),?_⟩
 refine sf1 rfl rfl rfl rfl (wn0 rfl) (s_ustr hp Tryd.underlying63 (by kernel_rfl) rfl (et d7) (et (k10 d2)) hS d1 hm ?_)
 clear hS; intro w3 r' rs_ hp_ hS; cases (show _=rs_ from hp_); refine pu (dt (q10 p3)) ?_
 refine ⟨Mons.z,?_⟩
 refine sf_pu (i:=11) [11] (blind_of fun _ _ _ h=>h.2) rfl rfl rfl (u_assign (et (k10 d3))) p2 ?_
 refine sf_nil ?_
 refine xn ?_
 refine cret ?_
 refine ret1 rfl d2 ?_
 exact ⟨_,rfl,Le.r,(hS.drop Rm.z).drop Rm.z⟩
end
end Go.Proofs.YteiemedhecjgiaaDoor
