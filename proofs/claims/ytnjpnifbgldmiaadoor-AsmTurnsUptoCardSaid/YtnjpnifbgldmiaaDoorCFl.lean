/- Texts of Fl. -/
import Derived.Test.YtnjpnifbgldmiaaDoorCXt
import Derived.Test.YtnjpnifbgldmiaaDoorProg
import Derived.KernelRfl
import Derived.Shelf.Strings.Builder1
import Derived.Shelf.Small.Wraps
import Derived.Shelf.Utf8.RuneCount
import Derived.Shelf.Strconv.Itoa0
import Derived.Shelf.Strconv.Itoa1
import Derived.Shelf.LaysM
import Derived.Shelf.Strconv.Itoa2
import Derived.Shelf.Strconv.Itoa3
import Derived.Shelf.Strconv.Itoa4
import Derived.Shelf.Strconv.ParseIntEmpty
import Derived.Shelf.Strconv.Clone
import Derived.Shelf.Strconv.SyntaxError
import Derived.Shelf.LaysC
import Derived.Shelf.Strconv.ToError
import Derived.Shelf.Strconv.Lower
import Derived.Shelf.Strconv.ParseUint10
import Derived.Shelf.Strconv.ParseUint10Empty
import Derived.Shelf.Strconv.ParseUint10Any
import Derived.Shelf.Strconv.ParseInt10
import Derived.Shelf.Strconv.RangeError
import Derived.Shelf.Strconv.ToErrorRange
import Derived.Shelf.Strconv.ParseUintEmpty
import Derived.Shelf.Strconv.ParseUint10b64
import Derived.Shelf.Strconv.ParseUint10b32
import Derived.Shelf.Strconv.ParseUint10b16
import Derived.Shelf.Strconv.ParseUint10b8
import Derived.Shelf.Strconv.ParseUint10At
import Derived.Shelf.Strconv.ParseInt10At64
import Derived.Shelf.Strconv.ParseInt10At32
import Derived.Shelf.Strconv.ParseInt10At16
import Derived.Shelf.Strconv.ParseInt10At8
import Derived.Shelf.Strconv.ParseInt10All
import Derived.Shelf.Strconv.ParseIntPublic10
import Derived.Shelf.Strings.Search1
import Derived.Shelf.Strings.Search2
import Derived.Shelf.Strings.Search3
import Derived.Shelf.Strings.Cut
import Derived.Shelf.Strings.Count
import Derived.Shelf.Strings.Shaped
import Derived.Shelf.Strings.Prefix
import Derived.Shelf.Strings.Split
import Derived.Shelf.Strings.SplitShaped
import Derived.Shelf.Unicode.Decode
import Derived.Shelf.Strings.RuneCount
import Derived.Shelf.Strings.Explode
import Derived.Shelf.Unicode.DecodeSlow
import Derived.Shelf.Unicode.DecodeAny
import Derived.Shelf.Slices.Turned
import Derived.Test.YtnjpnifbgldmiaaDoorCMd
import Derived.Lib.SplitLaws
set_option linter.unusedSimpArgs false
set_option linter.unusedVariables false
set_option linter.unusedSectionVars false
namespace Go.Proofs.YtnjpnifbgldmiaaDoor
open Go.Wk Go.Xt Tryd
instance isfn5:IsFn prog 5:=isf func5
instance isfn7:IsFn prog 7:=isf func7
instance isfn9:IsFn prog 9:=isf func9
instance isfn10:IsFn prog 10:=isf func10
instance isfn11:IsFn prog 11:=isf func11
instance isfn12:IsFn prog 12:=isf func12
instance isfn13:IsFn prog 13:=isf func13
instance isfn14:IsFn prog 14:=isf func14
instance isfn15:IsFn prog 15:=isf func15
instance isfn16:IsFn prog 16:=isf func16
instance isfn17:IsFn prog 17:=isf func17
instance isfn18:IsFn prog 18:=isf func18
instance isfn19:IsFn prog 19:=isf func19
instance isfn20:IsFn prog 20:=isf func20
instance isfn21:IsFn prog 21:=isf func21
instance isfn23:IsFn prog 23:=isf func23
instance isfn24:IsFn prog 24:=isf func24
instance isfn25:IsFn prog 25:=isf func25
instance isfn26:IsFn prog 26:=isf func26
instance isfn27:IsFn prog 27:=isf func27
instance isfn29:IsFn prog 29:=isf func29
instance isfn30:IsFn prog 30:=isf func30
instance isfn35:IsFn prog 35:=isf func35
instance isfn36:IsFn prog 36:=isf func36
instance isfn37:IsFn prog 37:=isf func37
instance isfn38:IsFn prog 38:=isf func38
instance isfn49:IsFn prog 49:=isf func49
instance ti2:TI prog 2 false [.int .i64 0] 1 8:=tj (z:=.int .i64 0) underlying2
instance ti3:TI prog 3 false [.int .i64 0] 1 8:=tj (z:=.int .i64 0) underlying3
instance ti5:TI prog 5 false [.int .u8 0] 1 1:=tj (z:=.int .u8 0) underlying5
instance ti9:TI prog 9 false [S []] 1 16:=tj (z:=S []) underlying9
instance ti22:TI prog 22 false [.slice none 0 0] 1 24:=tj (z:=.slice none 0 0) underlying22
instance ti23:TI prog 23 false [.slice none 0 0] 1 24:=tj (z:=.slice none 0 0) underlying23
instance ti25:TI prog 25 true [.slice none 0 0,.slice none 0 0] 2 48:=tj (z:=.agg #[.slice none 0 0,.slice none 0 0]) underlying25
instance ti26:TI prog 26 false [.int .i64 0] 1 8:=tj (z:=.int .i64 0) underlying26
instance ti28:TI prog 28 true [.int .i64 0,.int .i64 0,.int .i64 0] 3 24:=tj (z:=.agg #[.int .i64 0,.int .i64 0,.int .i64 0]) underlying28
instance ti32:TI prog 32 true [.int .i64 0,.int .i64 0] 2 16:=tj (z:=.agg #[.int .i64 0,.int .i64 0]) underlying32
instance ti39:TI prog 39 false [.pointer none] 1 8:=tj (z:=.pointer none) underlying39
instance ti40:TI prog 40 false [.slice none 0 0] 1 24:=tj (z:=.slice none 0 0) underlying40
instance ti42:TI prog 42 true [.pointer none,.slice none 0 0] 2 32:=tj (z:=.agg #[.pointer none,.slice none 0 0]) underlying42
instance ti43:TI prog 43 false [.slice none 0 0] 1 24:=tj (z:=.slice none 0 0) underlying43
instance ti52:TI prog 52 true [.int .i64 0,.int .i64 0] 2 16:=tj (z:=.agg #[.int .i64 0,.int .i64 0]) underlying52
instance ti53:TI prog 53 false [.slice none 0 0] 1 24:=tj (z:=.slice none 0 0) underlying53
instance ti55:TI prog 55 true [.int .i64 0,.int .i64 0,.slice none 0 0,.int .i64 0,.int .i64 0,.slice none 0 0] 6 80:=tj (z:=.agg #[.int .i64 0,.int .i64 0,.slice none 0 0,.int .i64 0,.int .i64 0,.slice none 0 0]) underlying55
instance ti59:TI prog 59 true [.int .i64 0,.int .i64 0,.int .i64 0] 3 24:=tj (z:=.agg #[.int .i64 0,.int .i64 0,.int .i64 0]) underlying59
theorem eg52:prog.eqGuardType prog.depth 52=false:=by kernel_rfl
theorem eg59:prog.eqGuardType prog.depth 59=false:=by kernel_rfl
theorem eh52:prog.stoodInHeld 52=false:=by kernel_rfl
theorem eh59:prog.stoodInHeld 59=false:=by kernel_rfl
instance fa25_0:FA prog 25 0 0:=fa_of underlying25 rfl rfl rfl ti22 rfl
instance fa25_1:FA prog 25 1 1:=fa_of underlying25 rfl rfl rfl ti23 rfl
instance fa28_0:FA prog 28 0 0:=fa_of underlying28 rfl rfl rfl ti26 rfl
instance fa32_0:FA prog 32 0 0:=fa_of underlying32 rfl rfl rfl ti26 rfl
instance fa42_0:FA prog 42 0 0:=fa_of underlying42 rfl rfl rfl ti39 rfl
instance fa42_1:FA prog 42 1 1:=fa_of underlying42 rfl rfl rfl ti40 rfl
instance fa52_0:FA prog 52 0 0:=fa_of underlying52 rfl rfl rfl ti3 rfl
instance fa52_1:FA prog 52 1 1:=fa_of underlying52 rfl rfl rfl ti3 rfl
instance fa55_0:FA prog 55 0 0:=fa_of underlying55 rfl rfl rfl ti3 rfl
instance fa55_1:FA prog 55 1 1:=fa_of underlying55 rfl rfl rfl ti3 rfl
instance fa55_2:FA prog 55 2 2:=fa_of underlying55 rfl rfl rfl ti43 rfl
instance fa55_3:FA prog 55 3 3:=fa_of underlying55 rfl rfl rfl ti3 rfl
instance fa55_4:FA prog 55 4 4:=fa_of underlying55 rfl rfl rfl ti3 rfl
instance fa55_5:FA prog 55 5 5:=fa_of underlying55 rfl rfl rfl ti53 rfl
instance fa59_0:FA prog 59 0 0:=fa_of underlying59 rfl rfl rfl ti3 rfl
instance fa59_1:FA prog 59 1 1:=fa_of underlying59 rfl rfl rfl ti3 rfl
instance fa59_2:FA prog 59 2 2:=fa_of underlying59 rfl rfl rfl ti2 rfl
theorem pl25:PL prog 25 #[(0,1),(1,1)]:=pl_of underlying25 (fun _=>by kernel_rfl)
theorem pl28:PL prog 28 #[(0,1),(1,1),(2,1)]:=pl_of underlying28 (fun _=>by kernel_rfl)
theorem pl32:PL prog 32 #[(0,1),(1,1)]:=pl_of underlying32 (fun _=>by kernel_rfl)
theorem pl52:PL prog 52 #[(0,1),(1,1)]:=pl_of underlying52 (fun _=>by kernel_rfl)
theorem pl55:PL prog 55 #[(0,1),(1,1),(2,1),(3,1),(4,1),(5,1)]:=pl_of underlying55 (fun _=>by kernel_rfl)
theorem pl59:PL prog 59 #[(0,1),(1,1),(2,1)]:=pl_of underlying59 (fun _=>by kernel_rfl)
end Go.Proofs.YtnjpnifbgldmiaaDoor
namespace Go.Proofs
open Go.Shelf
def Tryd.lays103_ren:Go.Shelf.Ren:=⟨fun | 103=>25 | 210=>34 | 206=>47 | n=>n,fun | 9=>9 | 4=>4 | 24=>71 | 3=>3 | n=>n,fun | n=>n⟩
theorem Tryd.lays103:Go.Proofs.Lays.n103 Tryd.prog Tryd.lays103_ren:={
 mixed:=by kernel_rfl
 f103:=Tryd.func25.trans (congrArg some (by kernel_rfl))
 f206:=Tryd.func47.trans (congrArg some (by kernel_rfl))
 f210:=Tryd.func34.trans (congrArg some (by kernel_rfl))
 t3:=Tryd.underlying3
 a3:=Tryd.isAgg3
 z3:=Tryd.sizeOf3
 v3:=Tryd.zeroValue3
 t4:=Tryd.underlying4
 a4:=Tryd.isAgg4
 z4:=Tryd.sizeOf4
 v4:=Tryd.zeroValue4
 t9:=Tryd.underlying9
 a9:=Tryd.isAgg9
 z9:=Tryd.sizeOf9
 v9:=Tryd.zeroValue9
 t24:=Tryd.underlying71
 a24:=Tryd.isAgg71
 z24:=Tryd.sizeOf71
 v24:=Tryd.zeroValue71 }
open Go.RowKit in
theorem Tryd.strings_CutPrefix (s p:ByteArray) (w:World) :
  Calls Tryd.prog 25 #[.string s,.string p] w fun e w'=>e=.returned (.tuple #[.string ⟨(Lib.trimPrefix s.data.toList p.data.toList).toArray⟩,.bool (Lib.hasPrefix s.data.toList p.data.toList)])∧w'=w:=Any.strings_CutPrefix Tryd.lays103 s p w
def Tryd.laysM171_ren:Go.Shelf.Ren:=⟨fun | 171=>14 | 243=>31 | 246=>32 | 283=>42 | 284=>43 | 285=>44 | 286=>45 | 129=>51 | 317=>50 | 318=>52 | 319=>53 | 320=>54 | 337=>64 | 338=>65 | n=>n,fun | 3=>3 | 9=>9 | 2=>2 | 4=>4 | 171=>90 | 0=>0 | 53=>91 | 37=>40 | 5=>5 | 173=>94 | 212=>103 | 51=>104 | 20=>20 | 213=>105 | 46=>107 | 232=>124 | 233=>125 | n=>n,fun | 17=>0 | 18=>2 | 19=>3 | n=>n⟩
theorem Tryd.laysM171:Go.Proofs.LaysM.n171 Tryd.prog Tryd.laysM171_ren:={
 mixed:=by kernel_rfl
 f129:=Tryd.func51.trans (congrArg some (by kernel_rfl))
 f171:=Tryd.func14.trans (congrArg some (by kernel_rfl))
 f243:=Tryd.func31.trans (congrArg some (by kernel_rfl))
 f246:=Tryd.func32.trans (congrArg some (by kernel_rfl))
 f283:=Tryd.func42.trans (congrArg some (by kernel_rfl))
 f284:=Tryd.func43.trans (congrArg some (by kernel_rfl))
 f285:=Tryd.func44.trans (congrArg some (by kernel_rfl))
 f286:=Tryd.func45.trans (congrArg some (by kernel_rfl))
 f317:=Tryd.func50.trans (congrArg some (by kernel_rfl))
 f318:=Tryd.func52.trans (congrArg some (by kernel_rfl))
 f319:=Tryd.func53.trans (congrArg some (by kernel_rfl))
 f320:=Tryd.func54.trans (congrArg some (by kernel_rfl))
 f337:=Tryd.func64.trans (congrArg some (by kernel_rfl))
 f338:=Tryd.func65.trans (congrArg some (by kernel_rfl))
 t0:=Tryd.underlying0
 a0:=Tryd.isAgg0
 z0:=Tryd.sizeOf0
 v0:=Tryd.zeroValue0
 t2:=Tryd.underlying2
 a2:=Tryd.isAgg2
 z2:=Tryd.sizeOf2
 v2:=Tryd.zeroValue2
 t3:=Tryd.underlying3
 a3:=Tryd.isAgg3
 z3:=Tryd.sizeOf3
 v3:=Tryd.zeroValue3
 t4:=Tryd.underlying4
 a4:=Tryd.isAgg4
 z4:=Tryd.sizeOf4
 v4:=Tryd.zeroValue4
 t5:=Tryd.underlying5
 a5:=Tryd.isAgg5
 z5:=Tryd.sizeOf5
 v5:=Tryd.zeroValue5
 t9:=Tryd.underlying9
 a9:=Tryd.isAgg9
 z9:=Tryd.sizeOf9
 v9:=Tryd.zeroValue9
 t20:=Tryd.underlying20
 a20:=Tryd.isAgg20
 z20:=Tryd.sizeOf20
 v20:=Tryd.zeroValue20
 t37:=Tryd.underlying40
 a37:=Tryd.isAgg40
 z37:=Tryd.sizeOf40
 v37:=Tryd.zeroValue40
 t46:=Tryd.underlying107
 a46:=Tryd.isAgg107
 z46:=Tryd.sizeOf107
 v46:=Tryd.zeroValue107
 t51:=Tryd.underlying104
 a51:=Tryd.isAgg104
 z51:=Tryd.sizeOf104
 v51:=Tryd.zeroValue104
 t53:=Tryd.underlying91
 a53:=Tryd.isAgg91
 z53:=Tryd.sizeOf91
 v53:=Tryd.zeroValue91
 t171:=Tryd.underlying90
 a171:=Tryd.isAgg90
 z171:=Tryd.sizeOf90
 v171:=Tryd.zeroValue90
 t173:=Tryd.underlying94
 a173:=Tryd.isAgg94
 z173:=Tryd.sizeOf94
 v173:=Tryd.zeroValue94
 t212:=Tryd.underlying103
 a212:=Tryd.isAgg103
 z212:=Tryd.sizeOf103
 v212:=Tryd.zeroValue103
 t213:=Tryd.underlying105
 a213:=Tryd.isAgg105
 z213:=Tryd.sizeOf105
 t232:=Tryd.underlying124
 a232:=Tryd.isAgg124
 z232:=Tryd.sizeOf124
 v232:=Tryd.zeroValue124
 t233:=Tryd.underlying125
 a233:=Tryd.isAgg125
 z233:=Tryd.sizeOf125
 v233:=Tryd.zeroValue125
 g17:=by kernel_rfl
 g18:=by kernel_rfl
 g19:=by kernel_rfl
 i0:=by kernel_rfl
 i2:=by kernel_rfl
 i3:=by kernel_rfl
 i4:=by kernel_rfl
 i5:=by kernel_rfl
 i9:=by kernel_rfl
 i20:=by kernel_rfl
 i37:=by kernel_rfl
 i46:=by kernel_rfl
 i51:=by kernel_rfl
 i53:=by kernel_rfl
 i171:=by kernel_rfl
 i173:=by kernel_rfl
 i212:=by kernel_rfl
 i232:=by kernel_rfl
 i233:=by kernel_rfl
 m17:=by kernel_rfl
 m18:=by kernel_rfl
 m19:=by kernel_rfl }
open Go.RowKit Go.Sort Go.Lib in
theorem Tryd.strconv_Itoa (n : Int) (h0 : -9223372036854775808 ≤ n) (h1 : n ≤ 9223372036854775807) (w : World) (htab : Lib.TabIs Tryd.prog w "internal/strconv.uint64pow10" .u64 Lib.pow10Tab) :
  Calls Tryd.prog 14 #[.int .i64 n] w fun e w'=>e=.returned (.string ⟨(Lib.itoa n).toArray⟩)∧∃ k os,w'=grow (w.drewN k) os:=Any.strconv_Itoa Tryd.laysM171 n h0 h1 w htab
def Tryd.laysM173_ren:Go.Shelf.Ren:=⟨fun | 173=>19 | 246=>32 | 283=>42 | 284=>43 | 285=>44 | 286=>45 | 129=>51 | 317=>50 | 318=>52 | 319=>53 | 320=>54 | 337=>64 | 338=>65 | n=>n,fun | 2=>2 | 3=>3 | 9=>9 | 4=>4 | 171=>90 | 0=>0 | 53=>91 | 37=>40 | 5=>5 | 173=>94 | 212=>103 | 51=>104 | 20=>20 | 213=>105 | 46=>107 | 232=>124 | 233=>125 | n=>n,fun | 17=>0 | 18=>2 | 19=>3 | n=>n⟩
theorem Tryd.laysM173:Go.Proofs.LaysM.n173 Tryd.prog Tryd.laysM173_ren:={
 mixed:=by kernel_rfl
 f129:=Tryd.func51.trans (congrArg some (by kernel_rfl))
 f173:=Tryd.func19.trans (congrArg some (by kernel_rfl))
 f246:=Tryd.func32.trans (congrArg some (by kernel_rfl))
 f283:=Tryd.func42.trans (congrArg some (by kernel_rfl))
 f284:=Tryd.func43.trans (congrArg some (by kernel_rfl))
 f285:=Tryd.func44.trans (congrArg some (by kernel_rfl))
 f286:=Tryd.func45.trans (congrArg some (by kernel_rfl))
 f317:=Tryd.func50.trans (congrArg some (by kernel_rfl))
 f318:=Tryd.func52.trans (congrArg some (by kernel_rfl))
 f319:=Tryd.func53.trans (congrArg some (by kernel_rfl))
 f320:=Tryd.func54.trans (congrArg some (by kernel_rfl))
 f337:=Tryd.func64.trans (congrArg some (by kernel_rfl))
 f338:=Tryd.func65.trans (congrArg some (by kernel_rfl))
 t0:=Tryd.underlying0
 a0:=Tryd.isAgg0
 z0:=Tryd.sizeOf0
 v0:=Tryd.zeroValue0
 t2:=Tryd.underlying2
 a2:=Tryd.isAgg2
 z2:=Tryd.sizeOf2
 v2:=Tryd.zeroValue2
 t3:=Tryd.underlying3
 a3:=Tryd.isAgg3
 z3:=Tryd.sizeOf3
 v3:=Tryd.zeroValue3
 t4:=Tryd.underlying4
 a4:=Tryd.isAgg4
 z4:=Tryd.sizeOf4
 v4:=Tryd.zeroValue4
 t5:=Tryd.underlying5
 a5:=Tryd.isAgg5
 z5:=Tryd.sizeOf5
 v5:=Tryd.zeroValue5
 t9:=Tryd.underlying9
 a9:=Tryd.isAgg9
 z9:=Tryd.sizeOf9
 v9:=Tryd.zeroValue9
 t20:=Tryd.underlying20
 a20:=Tryd.isAgg20
 z20:=Tryd.sizeOf20
 v20:=Tryd.zeroValue20
 t37:=Tryd.underlying40
 a37:=Tryd.isAgg40
 z37:=Tryd.sizeOf40
 v37:=Tryd.zeroValue40
 t46:=Tryd.underlying107
 a46:=Tryd.isAgg107
 z46:=Tryd.sizeOf107
 v46:=Tryd.zeroValue107
 t51:=Tryd.underlying104
 a51:=Tryd.isAgg104
 z51:=Tryd.sizeOf104
 v51:=Tryd.zeroValue104
 t53:=Tryd.underlying91
 a53:=Tryd.isAgg91
 z53:=Tryd.sizeOf91
 v53:=Tryd.zeroValue91
 t171:=Tryd.underlying90
 a171:=Tryd.isAgg90
 z171:=Tryd.sizeOf90
 v171:=Tryd.zeroValue90
 t173:=Tryd.underlying94
 a173:=Tryd.isAgg94
 z173:=Tryd.sizeOf94
 v173:=Tryd.zeroValue94
 t212:=Tryd.underlying103
 a212:=Tryd.isAgg103
 z212:=Tryd.sizeOf103
 v212:=Tryd.zeroValue103
 t213:=Tryd.underlying105
 a213:=Tryd.isAgg105
 z213:=Tryd.sizeOf105
 t232:=Tryd.underlying124
 a232:=Tryd.isAgg124
 z232:=Tryd.sizeOf124
 v232:=Tryd.zeroValue124
 t233:=Tryd.underlying125
 a233:=Tryd.isAgg125
 z233:=Tryd.sizeOf125
 v233:=Tryd.zeroValue125
 g17:=by kernel_rfl
 g18:=by kernel_rfl
 g19:=by kernel_rfl
 i0:=by kernel_rfl
 i2:=by kernel_rfl
 i3:=by kernel_rfl
 i4:=by kernel_rfl
 i5:=by kernel_rfl
 i9:=by kernel_rfl
 i20:=by kernel_rfl
 i37:=by kernel_rfl
 i46:=by kernel_rfl
 i51:=by kernel_rfl
 i53:=by kernel_rfl
 i171:=by kernel_rfl
 i173:=by kernel_rfl
 i212:=by kernel_rfl
 i232:=by kernel_rfl
 i233:=by kernel_rfl
 m17:=by kernel_rfl
 m18:=by kernel_rfl
 m19:=by kernel_rfl }
open Go.RowKit Go.Sort Go.Lib in
theorem Tryd.strconv_FormatInt_10 (n : Int) (h0 : -9223372036854775808 ≤ n) (h1 : n ≤ 9223372036854775807) (w : World) (htab : Lib.TabIs Tryd.prog w "internal/strconv.uint64pow10" .u64 Lib.pow10Tab) :
  Calls Tryd.prog 19 #[.int .i64 n,.int .i64 10] w fun e w'=>e=.returned (.string ⟨(Lib.itoa n).toArray⟩)∧∃ k os,w'=grow (w.drewN k) os:=Any.strconv_FormatInt_10 Tryd.laysM173 n h0 h1 w htab
def Tryd.laysC174_ren:Go.Shelf.Ren:=⟨fun | 174=>49 | 247=>62 | 245=>63 | 287=>71 | 279=>72 | 280=>73 | 281=>74 | 282=>75 | 321=>77 | 322=>78 | 316=>79 | 171=>14 | 205=>80 | 243=>31 | 246=>32 | 283=>42 | 284=>43 | 285=>44 | 286=>45 | 129=>51 | 317=>50 | 318=>52 | 319=>53 | 320=>54 | 337=>64 | 338=>65 | n=>n,fun | 9=>9 | 3=>3 | 2=>2 | 75=>45 | 85=>99 | 4=>4 | 167=>118 | 5=>5 | 53=>91 | 175=>119 | 46=>107 | 168=>121 | 37=>40 | 0=>0 | 210=>130 | 21=>21 | 127=>79 | 145=>138 | 143=>136 | 171=>90 | 173=>94 | 212=>103 | 51=>104 | 20=>20 | 213=>105 | 232=>124 | 233=>125 | 80=>64 | n=>n,fun | 15=>4 | 16=>5 | 17=>0 | 18=>2 | 19=>3 | n=>n⟩
theorem Tryd.laysC174:Go.Proofs.LaysC.n174 Tryd.prog Tryd.laysC174_ren:={
 mixed:=by kernel_rfl
 f129:=Tryd.func51.trans (congrArg some (by kernel_rfl))
 f171:=Tryd.func14.trans (congrArg some (by kernel_rfl))
 f174:=Tryd.func49.trans (congrArg some (by kernel_rfl))
 f205:=Tryd.func80.trans (congrArg some (by kernel_rfl))
 f243:=Tryd.func31.trans (congrArg some (by kernel_rfl))
 f245:=Tryd.func63.trans (congrArg some (by kernel_rfl))
 f246:=Tryd.func32.trans (congrArg some (by kernel_rfl))
 f247:=Tryd.func62.trans (congrArg some (by kernel_rfl))
 f279:=Tryd.func72.trans (congrArg some (by kernel_rfl))
 f280:=Tryd.func73.trans (congrArg some (by kernel_rfl))
 f281:=Tryd.func74.trans (congrArg some (by kernel_rfl))
 f282:=Tryd.func75.trans (congrArg some (by kernel_rfl))
 f283:=Tryd.func42.trans (congrArg some (by kernel_rfl))
 f284:=Tryd.func43.trans (congrArg some (by kernel_rfl))
 f285:=Tryd.func44.trans (congrArg some (by kernel_rfl))
 f286:=Tryd.func45.trans (congrArg some (by kernel_rfl))
 f287:=Tryd.func71.trans (congrArg some (by kernel_rfl))
 f316:=Tryd.func79.trans (congrArg some (by kernel_rfl))
 f317:=Tryd.func50.trans (congrArg some (by kernel_rfl))
 f318:=Tryd.func52.trans (congrArg some (by kernel_rfl))
 f319:=Tryd.func53.trans (congrArg some (by kernel_rfl))
 f320:=Tryd.func54.trans (congrArg some (by kernel_rfl))
 f321:=Tryd.func77.trans (congrArg some (by kernel_rfl))
 f322:=Tryd.func78.trans (congrArg some (by kernel_rfl))
 f337:=Tryd.func64.trans (congrArg some (by kernel_rfl))
 f338:=Tryd.func65.trans (congrArg some (by kernel_rfl))
 t0:=Tryd.underlying0
 a0:=Tryd.isAgg0
 z0:=Tryd.sizeOf0
 v0:=Tryd.zeroValue0
 t2:=Tryd.underlying2
 a2:=Tryd.isAgg2
 z2:=Tryd.sizeOf2
 v2:=Tryd.zeroValue2
 t3:=Tryd.underlying3
 a3:=Tryd.isAgg3
 z3:=Tryd.sizeOf3
 v3:=Tryd.zeroValue3
 t4:=Tryd.underlying4
 a4:=Tryd.isAgg4
 z4:=Tryd.sizeOf4
 v4:=Tryd.zeroValue4
 t5:=Tryd.underlying5
 a5:=Tryd.isAgg5
 z5:=Tryd.sizeOf5
 v5:=Tryd.zeroValue5
 t9:=Tryd.underlying9
 a9:=Tryd.isAgg9
 z9:=Tryd.sizeOf9
 v9:=Tryd.zeroValue9
 t20:=Tryd.underlying20
 a20:=Tryd.isAgg20
 z20:=Tryd.sizeOf20
 v20:=Tryd.zeroValue20
 t21:=Tryd.underlying21
 a21:=Tryd.isAgg21
 z21:=Tryd.sizeOf21
 v21:=Tryd.zeroValue21
 t37:=Tryd.underlying40
 a37:=Tryd.isAgg40
 z37:=Tryd.sizeOf40
 v37:=Tryd.zeroValue40
 t46:=Tryd.underlying107
 a46:=Tryd.isAgg107
 z46:=Tryd.sizeOf107
 v46:=Tryd.zeroValue107
 t51:=Tryd.underlying104
 a51:=Tryd.isAgg104
 z51:=Tryd.sizeOf104
 v51:=Tryd.zeroValue104
 t53:=Tryd.underlying91
 a53:=Tryd.isAgg91
 z53:=Tryd.sizeOf91
 v53:=Tryd.zeroValue91
 t75:=Tryd.underlying45
 a75:=Tryd.isAgg45
 z75:=Tryd.sizeOf45
 v75:=Tryd.zeroValue45
 t85:=Tryd.underlying99
 a85:=Tryd.isAgg99
 z85:=Tryd.sizeOf99
 v85:=Tryd.zeroValue99
 t127:=Tryd.underlying79
 a127:=Tryd.isAgg79
 z127:=Tryd.sizeOf79
 v127:=Tryd.zeroValue79
 t143:=Tryd.underlying136
 a143:=Tryd.isAgg136
 z143:=Tryd.sizeOf136
 v143:=Tryd.zeroValue136
 t145:=Tryd.underlying138
 a145:=Tryd.isAgg138
 z145:=Tryd.sizeOf138
 v145:=Tryd.zeroValue138
 t167:=Tryd.underlying118
 a167:=Tryd.isAgg118
 z167:=Tryd.sizeOf118
 v167:=Tryd.zeroValue118
 t168:=Tryd.underlying121
 a168:=Tryd.isAgg121
 z168:=Tryd.sizeOf121
 v168:=Tryd.zeroValue121
 t171:=Tryd.underlying90
 a171:=Tryd.isAgg90
 z171:=Tryd.sizeOf90
 v171:=Tryd.zeroValue90
 t173:=Tryd.underlying94
 a173:=Tryd.isAgg94
 z173:=Tryd.sizeOf94
 v173:=Tryd.zeroValue94
 t175:=Tryd.underlying119
 a175:=Tryd.isAgg119
 z175:=Tryd.sizeOf119
 v175:=Tryd.zeroValue119
 t210:=Tryd.underlying130
 a210:=Tryd.isAgg130
 z210:=Tryd.sizeOf130
 v210:=Tryd.zeroValue130
 t212:=Tryd.underlying103
 a212:=Tryd.isAgg103
 z212:=Tryd.sizeOf103
 v212:=Tryd.zeroValue103
 t213:=Tryd.underlying105
 a213:=Tryd.isAgg105
 z213:=Tryd.sizeOf105
 t232:=Tryd.underlying124
 a232:=Tryd.isAgg124
 z232:=Tryd.sizeOf124
 v232:=Tryd.zeroValue124
 t233:=Tryd.underlying125
 a233:=Tryd.isAgg125
 z233:=Tryd.sizeOf125
 v233:=Tryd.zeroValue125
 g15:=by kernel_rfl
 g16:=by kernel_rfl
 g17:=by kernel_rfl
 g18:=by kernel_rfl
 g19:=by kernel_rfl
 t80:=Tryd.underlying64
 a80:=Tryd.isAgg64
 z80:=Tryd.sizeOf64
 v80:=Tryd.zeroValue64
 i0:=by kernel_rfl
 i2:=by kernel_rfl
 i3:=by kernel_rfl
 i4:=by kernel_rfl
 i5:=by kernel_rfl
 i9:=by kernel_rfl
 i20:=by kernel_rfl
 i21:=by kernel_rfl
 i37:=by kernel_rfl
 i46:=by kernel_rfl
 i51:=by kernel_rfl
 i53:=by kernel_rfl
 i75:=by kernel_rfl
 i80:=by kernel_rfl
 i85:=by kernel_rfl
 i127:=by kernel_rfl
 i143:=by kernel_rfl
 i145:=by kernel_rfl
 i167:=by kernel_rfl
 i168:=by kernel_rfl
 i171:=by kernel_rfl
 i173:=by kernel_rfl
 i175:=by kernel_rfl
 i210:=by kernel_rfl
 i212:=by kernel_rfl
 i232:=by kernel_rfl
 i233:=by kernel_rfl
 m15:=by kernel_rfl
 m16:=by kernel_rfl
 m17:=by kernel_rfl
 m18:=by kernel_rfl
 m19:=by kernel_rfl
 c0:=by kernel_rfl
 c2:=by kernel_rfl
 c3:=by kernel_rfl
 c4:=by kernel_rfl
 c5:=by kernel_rfl
 c9:=by kernel_rfl
 c20:=by kernel_rfl
 c21:=by kernel_rfl
 c37:=by kernel_rfl
 c46:=by kernel_rfl
 c51:=by kernel_rfl
 c53:=by kernel_rfl
 c75:=by kernel_rfl
 c80:=by kernel_rfl
 c85:=by kernel_rfl
 c127:=by kernel_rfl
 c143:=by kernel_rfl
 c145:=by kernel_rfl
 c167:=by kernel_rfl
 c168:=by kernel_rfl
 c171:=by kernel_rfl
 c173:=by kernel_rfl
 c175:=by kernel_rfl
 c210:=by kernel_rfl
 c212:=by kernel_rfl
 c213:=by kernel_rfl
 c232:=by kernel_rfl
 c233:=by kernel_rfl }
open Go.RowKit in
theorem Tryd.strconv_ParseInt_10_at64_ok (s:ByteArray) (hmax:s.size≤9223372036854775806) (v:Int) (h:Lib.parseIntB 64 s.data.toList=.ok v) (w:World) :
  Calls Tryd.prog 49 #[.string s,.int .i64 10,.int .i64 64] w fun e w'=>e=.returned (.tuple #[.int .i64 v,.nilIface])∧(w'=w∨∃ t,w'=Lib.bytesWorld w 5 t):=Any.strconv_ParseInt_10_at64_ok Tryd.laysC174 s hmax v h w
open Go.RowKit in
theorem Tryd.strconv_ParseInt_10_at64_syntax (s:ByteArray) (hlim:s.size≤281474976710656) (h:(match Lib.parseIntB 64 s.data.toList with | .ok _=>false | .range=>false | _=>true)=true) (ev:Value) (w:World) (hv:w.cell? ⟨4,0,none⟩=some ev) (hev:ev=.nilIface∨∃ te pe,ev=.iface te pe) :
  Calls Tryd.prog 49 #[.string s,.int .i64 10,.int .i64 64] w fun e w'=>∃ N,e=.returned (.tuple #[.int .i64 (0),.iface 121 (.pointer (some ⟨N,0,none⟩))])∧w.heap.size≤N∧w'.heap[N]?=some (.cells #[.string ⟨#[80,97,114,115,101,73,110,116]⟩,.string s,ev] 130 (0,0))∧Below w.heap.size w w':=Any.strconv_ParseInt_10_at64_syntax Tryd.laysC174 s hlim (by cases hh:Lib.parseIntB 64 s.data.toList <;> simp_all) ev w hv hev
open Go.RowKit in
theorem Tryd.strconv_ParseInt_10_at64_range (s:ByteArray) (hlim:s.size≤281474976710656) (h:Lib.parseIntB 64 s.data.toList=.range) (ev:Value) (w:World) (hv:w.cell? ⟨5,0,none⟩=some ev) (hev:ev=.nilIface∨∃ te pe,ev=.iface te pe) :
  Calls Tryd.prog 49 #[.string s,.int .i64 10,.int .i64 64] w fun e w'=>∃ N,e=.returned (.tuple #[.int .i64 (Lib.intSat 64 s.data.toList),.iface 121 (.pointer (some ⟨N,0,none⟩))])∧w.heap.size≤N∧w'.heap[N]?=some (.cells #[.string ⟨#[80,97,114,115,101,73,110,116]⟩,.string s,ev] 130 (0,0))∧Below w.heap.size w w':=Any.strconv_ParseInt_10_at64_range Tryd.laysC174 s hlim h ev w hv hev
def Tryd.lays145_ren:Go.Shelf.Ren:=⟨fun | 145=>24 | 220=>33 | 219=>46 | 217=>55 | 225=>56 | 224=>57 | 267=>58 | 266=>66 | 314=>67 | n=>n,fun | 9=>9 | 4=>4 | 59=>69 | 3=>3 | 5=>5 | 46=>107 | 146=>113 | 51=>104 | n=>n,fun | 1=>1 | n=>n⟩
theorem Tryd.lays145:Go.Proofs.Lays.n145 Tryd.prog Tryd.lays145_ren:={
 mixed:=by kernel_rfl
 f145:=Tryd.func24.trans (congrArg some (by kernel_rfl))
 f217:=Tryd.func55.trans (congrArg some (by kernel_rfl))
 f219:=Tryd.func46.trans (congrArg some (by kernel_rfl))
 f220:=Tryd.func33.trans (congrArg some (by kernel_rfl))
 f224:=Tryd.func57.trans (congrArg some (by kernel_rfl))
 f225:=Tryd.func56.trans (congrArg some (by kernel_rfl))
 f266:=Tryd.func66.trans (congrArg some (by kernel_rfl))
 f267:=Tryd.func58.trans (congrArg some (by kernel_rfl))
 f314:=Tryd.func67.trans (congrArg some (by kernel_rfl))
 t3:=Tryd.underlying3
 a3:=Tryd.isAgg3
 z3:=Tryd.sizeOf3
 v3:=Tryd.zeroValue3
 t4:=Tryd.underlying4
 a4:=Tryd.isAgg4
 z4:=Tryd.sizeOf4
 v4:=Tryd.zeroValue4
 t5:=Tryd.underlying5
 a5:=Tryd.isAgg5
 z5:=Tryd.sizeOf5
 v5:=Tryd.zeroValue5
 t9:=Tryd.underlying9
 a9:=Tryd.isAgg9
 z9:=Tryd.sizeOf9
 v9:=Tryd.zeroValue9
 t46:=Tryd.underlying107
 a46:=Tryd.isAgg107
 z46:=Tryd.sizeOf107
 v46:=Tryd.zeroValue107
 t51:=Tryd.underlying104
 a51:=Tryd.isAgg104
 z51:=Tryd.sizeOf104
 v51:=Tryd.zeroValue104
 t59:=Tryd.underlying69
 a59:=Tryd.isAgg69
 z59:=Tryd.sizeOf69
 v59:=Tryd.zeroValue69
 t146:=Tryd.underlying113
 a146:=Tryd.isAgg113
 z146:=Tryd.sizeOf113
 v146:=Tryd.zeroValue113
 g1:=by kernel_rfl }
open Go.RowKit Go.Lib in
theorem Tryd.strings_Cut (s sep:ByteArray) (m:Int) (w:World) (hs:s.size<4294967281) (hm:w.cell? ⟨1,0,none⟩=some (.int .i64 m)) :
  Calls Tryd.prog 24 #[.string s,.string sep] w fun e w'=>e=.returned (.tuple #[.string ⟨(Lib.cut s.data.toList sep.data.toList).1.toArray⟩,.string ⟨(Lib.cut s.data.toList sep.data.toList).2.1.toArray⟩,.bool (Lib.cut s.data.toList sep.data.toList).2.2])∧∃ n,w'=w.drewN n:=Any.strings_Cut Tryd.lays145 s sep m w hs hm
def Tryd.lays146_ren:Go.Shelf.Ren:=⟨fun | 146=>35 | 221=>48 | 268=>59 | 138=>60 | 143=>61 | 195=>68 | 197=>69 | 218=>70 | 219=>46 | 260=>76 | 217=>55 | 225=>56 | 224=>57 | 267=>58 | 266=>66 | 314=>67 | n=>n,fun | 9=>9 | 31=>56 | 3=>3 | 4=>4 | 0=>0 | 105=>116 | 21=>21 | 5=>5 | 46=>107 | 119=>132 | 139=>135 | 138=>134 | 146=>113 | 51=>104 | n=>n,fun | 1=>1 | 3=>6 | 4=>7 | n=>n⟩
theorem Tryd.lays146:Go.Proofs.Lays.n146 Tryd.prog Tryd.lays146_ren:={
 mixed:=by kernel_rfl
 f138:=Tryd.func60.trans (congrArg some (by kernel_rfl))
 f143:=Tryd.func61.trans (congrArg some (by kernel_rfl))
 f146:=Tryd.func35.trans (congrArg some (by kernel_rfl))
 f195:=Tryd.func68.trans (congrArg some (by kernel_rfl))
 f197:=Tryd.func69.trans (congrArg some (by kernel_rfl))
 f217:=Tryd.func55.trans (congrArg some (by kernel_rfl))
 f218:=Tryd.func70.trans (congrArg some (by kernel_rfl))
 f219:=Tryd.func46.trans (congrArg some (by kernel_rfl))
 f221:=Tryd.func48.trans (congrArg some (by kernel_rfl))
 f224:=Tryd.func57.trans (congrArg some (by kernel_rfl))
 f225:=Tryd.func56.trans (congrArg some (by kernel_rfl))
 f260:=Tryd.func76.trans (congrArg some (by kernel_rfl))
 f266:=Tryd.func66.trans (congrArg some (by kernel_rfl))
 f267:=Tryd.func58.trans (congrArg some (by kernel_rfl))
 f268:=Tryd.func59.trans (congrArg some (by kernel_rfl))
 f314:=Tryd.func67.trans (congrArg some (by kernel_rfl))
 t0:=Tryd.underlying0
 a0:=Tryd.isAgg0
 z0:=Tryd.sizeOf0
 v0:=Tryd.zeroValue0
 t3:=Tryd.underlying3
 a3:=Tryd.isAgg3
 z3:=Tryd.sizeOf3
 v3:=Tryd.zeroValue3
 t4:=Tryd.underlying4
 a4:=Tryd.isAgg4
 z4:=Tryd.sizeOf4
 v4:=Tryd.zeroValue4
 t5:=Tryd.underlying5
 a5:=Tryd.isAgg5
 z5:=Tryd.sizeOf5
 v5:=Tryd.zeroValue5
 t9:=Tryd.underlying9
 a9:=Tryd.isAgg9
 z9:=Tryd.sizeOf9
 v9:=Tryd.zeroValue9
 t21:=Tryd.underlying21
 a21:=Tryd.isAgg21
 z21:=Tryd.sizeOf21
 v21:=Tryd.zeroValue21
 t31:=Tryd.underlying56
 a31:=Tryd.isAgg56
 z31:=Tryd.sizeOf56
 v31:=Tryd.zeroValue56
 t46:=Tryd.underlying107
 a46:=Tryd.isAgg107
 z46:=Tryd.sizeOf107
 v46:=Tryd.zeroValue107
 t51:=Tryd.underlying104
 a51:=Tryd.isAgg104
 z51:=Tryd.sizeOf104
 v51:=Tryd.zeroValue104
 t105:=Tryd.underlying116
 a105:=Tryd.isAgg116
 z105:=Tryd.sizeOf116
 v105:=Tryd.zeroValue116
 t119:=Tryd.underlying132
 a119:=Tryd.isAgg132
 z119:=Tryd.sizeOf132
 t138:=Tryd.underlying134
 a138:=Tryd.isAgg134
 z138:=Tryd.sizeOf134
 v138:=Tryd.zeroValue134
 t139:=Tryd.underlying135
 a139:=Tryd.isAgg135
 z139:=Tryd.sizeOf135
 v139:=Tryd.zeroValue135
 t146:=Tryd.underlying113
 a146:=Tryd.isAgg113
 z146:=Tryd.sizeOf113
 v146:=Tryd.zeroValue113
 g1:=by kernel_rfl
 g3:=by kernel_rfl
 g4:=by kernel_rfl }
open Go.RowKit Go.Lib in
theorem Tryd.strings_Split (s sep:ByteArray) (m:Int) (w:World) (hs:s.size<4294967281) (hm:w.cell? ⟨1,0,none⟩=some (.int .i64 m)) (h1:1≤sep.size) :
  Calls Tryd.prog 35 #[.string s,.string sep] w fun e w' =>
   e=.returned (.slice (some ⟨w.heap.size,0,none⟩) (Lib.countB s sep+1) (Lib.countB s sep+1))∧w'=w.alloc (.cells ((Lib.splitB sep 0 (Lib.countB s sep) s).map Value.string).toArray 9):=Any.strings_Split Tryd.lays146 (by kernel_rfl) s sep m w hs hm h1
def Tryd.lays109_ren:Go.Shelf.Ren:=⟨fun | 109=>36 | n=>n,fun | 31=>56 | 9=>9 | 3=>3 | 0=>0 | 4=>4 | n=>n,fun | n=>n⟩
theorem Tryd.lays109:Go.Proofs.Lays.n109 Tryd.prog Tryd.lays109_ren:={
 mixed:=by kernel_rfl
 f109:=Tryd.func36.trans (congrArg some (by kernel_rfl))
 t0:=Tryd.underlying0
 a0:=Tryd.isAgg0
 z0:=Tryd.sizeOf0
 v0:=Tryd.zeroValue0
 t3:=Tryd.underlying3
 a3:=Tryd.isAgg3
 z3:=Tryd.sizeOf3
 v3:=Tryd.zeroValue3
 t4:=Tryd.underlying4
 a4:=Tryd.isAgg4
 z4:=Tryd.sizeOf4
 v4:=Tryd.zeroValue4
 t9:=Tryd.underlying9
 a9:=Tryd.isAgg9
 z9:=Tryd.sizeOf9
 v9:=Tryd.zeroValue9
 t31:=Tryd.underlying56
 a31:=Tryd.isAgg56
 z31:=Tryd.sizeOf56
 v31:=Tryd.zeroValue56 }
open Go.Lib in
theorem Tryd.slices_Index_string (b off n c:Nat) (zs:List ByteArray) (x:ByteArray) (w:World) (hz:n≤zs.length) (hbig:n≤9223372036854775807) (hc:∀ j,j<zs.length→w.cell? ⟨b,off+j,none⟩=some (.string (zs.getD j ByteArray.empty))) :
  Calls Tryd.prog 36 #[.slice (some ⟨b,off,none⟩) n c,.string x] w fun e w'=>e=.returned (.int .i64 (Lib.idxOfS (zs.take n) x))∧w'=w:=Any.slices_Index_string Tryd.lays109 b off n c zs x w hz hbig hc
open Go.Lib in
theorem Tryd.slices_Index_string_empty (a:Option Addr) (c:Nat) (x:ByteArray) (w:World) :
  Calls Tryd.prog 36 #[.slice a 0 c,.string x] w fun e w'=>e=.returned (.int .i64 (Lib.idxOfS [] x))∧w'=w:=Any.slices_Index_string_empty Tryd.lays109 a c x w
end Go.Proofs
namespace Go.Proofs.YtnjpnifbgldmiaaDoor
open Go.Wk Go.Xt Go.Y Go.RowKit Go.Sort Tryd
theorem grow_of {w w':World} (h:Below w.heap.size w w'):Grow w w':=⟨h.os,h.tape,h.output,h.size,fun k hk _=>h.block k hk⟩
theorem grow_drewN (w:World) (n:Nat):Grow w (w.drewN n):=⟨rfl,rfl,rfl,Nat.le_refl _,fun _ _ _=>rfl⟩
theorem grow_grow' (w:World) (n:Nat) (os:Array Obj):Grow w (grow (w.drewN n) os):=⟨rfl,rfl,rfl,by simp [grow],fun k hk _=>by
 simp only [grow,World.heap_drewN]
 exact Array.getElem?_append_left hk⟩
def Gm : M := fun w => (∃ m, w.cell? ⟨1, 0, none⟩ = some (.int .i64 m)) ∧ Lib.TabIs prog w "internal/strconv.uint64pow10" .u64 Lib.pow10Tab ∧ (∃ ev, w.cell? ⟨4, 0, none⟩ = some ev ∧ (ev = .nilIface ∨ ∃ te pe, ev = .iface te pe)) ∧ (∃ ev, w.cell? ⟨5, 0, none⟩ = some ev ∧ (ev = .nilIface ∨ ∃ te pe, ev = .iface te pe))
section
variable {μ0:M} {w0 w:World} {rsF:List Res}
theorem s_cut_w {a b:List UInt8} {r:List UInt8×List UInt8×Bool} (hg:Le Gm μ0) (g:s_cut a b=some r) (hS:Sq μ0 w0 w rsF) :
  CallsV prog 24 [S a,S b] w (fun v w'=>v=.tuple ⟨[S r.1,S r.2.1,.bool r.2.2]⟩∧Sq μ0 w0 w' rsF):=by
 unfold s_cut at g
 split at g
 ·rename_i hl
  obtain rfl:=Option.some.inj g
  obtain ⟨⟨m,hm⟩,-⟩:=hg w hS.a
  exact ⟨(strings_Cut ⟨⟨a⟩⟩ ⟨⟨b⟩⟩ m w hl hm).mono fun e w' he=>by
   obtain ⟨rfl,n,rfl⟩:=he
   exact ⟨rfl,hS.grow (grow_drewN w n)⟩⟩
 ·cases g
theorem s_pre_w {a b:List UInt8} {r:List UInt8×Bool} (g:s_pre a b=some r) (hS:Sq μ0 w0 w rsF) :
  CallsV prog 25 [S a,S b] w (fun v w'=>v=.tuple ⟨[S r.1,.bool r.2]⟩∧Sq μ0 w0 w' rsF):=by
 obtain rfl:=Option.some.inj g
 exact ⟨(strings_CutPrefix ⟨⟨a⟩⟩ ⟨⟨b⟩⟩ w).mono fun e w' he=>by
  obtain ⟨rfl,rfl⟩:=he
  exact ⟨rfl,hS⟩⟩
theorem rw_strings {μ:M}:∀ (l:List ByteArray),Rw μ (l.map Value.string) (l.map (·.data.toList))
 | []=>Rw.nil
 | x::l=>Rw.cons (cs:=[.string x]) (show [Value.string x]=[S x.data.toList] by simp [S]) (rw_strings l)
theorem s_split_w {a b:List UInt8} {r:List (List UInt8)} (hg:Le Gm μ0) (g:s_split a b=some r) (hS:Sq μ0 w0 w rsF) :
  CallsV prog 35 [S a,S b] w (fun v w'=>∃ (μ':M) (p:Option Addr) (c:Nat),v=.slice p r.length c∧Le μ0 μ'∧Sq μ' w0 w' rsF∧Sl μ' p c r):=by
 unfold s_split at g
 split at g
 ·rename_i hl
  obtain ⟨hl,h1⟩:=hl
  obtain rfl:=Option.some.inj g
  obtain ⟨⟨m,hm⟩,-⟩:=hg w hS.a
  refine ⟨(strings_Split ⟨⟨a⟩⟩ ⟨⟨b⟩⟩ m w hl hm h1).mono fun e w' he=>?_⟩
  obtain ⟨rfl,rfl⟩:=he
  have hn:=Lib.splitB_all ⟨⟨b⟩⟩ h1 0 _ ⟨⟨a⟩⟩ rfl
  have hc:=Lib.countB_le ⟨⟨b⟩⟩ h1 _ ⟨⟨a⟩⟩ (Nat.le_refl _)
  have hsz:(⟨⟨a⟩⟩:ByteArray).size<4294967281:=hl
  have key:Sq μ0 w0 (w.alloc (.cells ((Lib.splitB ⟨⟨b⟩⟩ 0 (Lib.countB ⟨⟨a⟩⟩ ⟨⟨b⟩⟩) ⟨⟨a⟩⟩).map Value.string).toArray 9)) (.row (.slice (some ⟨w.heap.size,0,none⟩) (Lib.countB ⟨⟨a⟩⟩ ⟨⟨b⟩⟩+1) (Lib.countB ⟨⟨a⟩⟩ ⟨⟨b⟩⟩+1)) 9 1 (Lib.countB ⟨⟨a⟩⟩ ⟨⟨b⟩⟩+1) ((Lib.splitB ⟨⟨b⟩⟩ 0 (Lib.countB ⟨⟨a⟩⟩ ⟨⟨b⟩⟩) ⟨⟨a⟩⟩).map Value.string)::rsF):=by
   refine hS.alloc rfl ⟨by simp [hn],.inr ⟨_,0,_,_,rfl,heap_alloc_new w _,Nat.le_refl _,?_,?_,?_⟩⟩
   ·simp only [maxLen]; omega
   ·simp [hn]
   ·simp only [List.drop_zero,Nat.mul_one]
    exact List.take_of_length_le (by simp [hn])
  obtain ⟨μ',p,c,e,hle,hs,hS'⟩:=Sep.frzRow (α:=List UInt8) key (rw_strings _) (by simp [hn])
  exact ⟨μ',p,c,by rw [← e],hle,hS',hs⟩
 ·cases g
theorem s_idx_w {l:List (List UInt8)} {x:List UInt8} {r:Int} {p:Option Addr} {c:Nat} (hl:Sl μ0 p c l) (g:s_idx l x=some r) (hS:Sq μ0 w0 w rsF) :
  CallsV prog 36 [.slice p l.length c,S x] w (fun v w'=>v=.int .i64 r∧Sq μ0 w0 w' rsF):=by
 obtain rfl:=Option.some.inj g
 cases l with
 | nil=>exact ⟨(slices_Index_string_empty p c ⟨⟨x⟩⟩ w).mono fun e w' he=>by
   obtain ⟨rfl,rfl⟩:=he
   exact ⟨rfl,hS⟩⟩
 | cons y l =>
  have hlen:=Sl.len hl
  rcases hl.el with h | ⟨b,o,rfl,gg,hel⟩
  ·cases h
  ·refine ⟨(slices_Index_string b o (y::l).length c ((y::l).map fun y=>⟨⟨y⟩⟩) ⟨⟨x⟩⟩ w (by simp) hlen ?_).mono fun e w' he=>?_⟩
   ·intro j hj
    have hj2:j<(y::l).length:=by simpa using hj
    obtain ⟨h1,h2⟩:=hel j _ (List.getElem?_eq_getElem hj2)
    have h3:gg j=[S (y::l)[j]]:=h2
    rw [h3] at h1
    have h4:=h1 w hS.a 0 _ rfl
    have h5:o+j*Mo.sz (List UInt8)+0=o+j:=by show o+j*1+0=_; omega
    rw [h5] at h4
    rw [h4]
    simp only [List.getD_eq_getElem?_getD,List.getElem?_map,List.getElem?_eq_getElem hj2]
    rfl
   ·obtain ⟨rfl,rfl⟩:=he
    refine ⟨?_,hS⟩
    rw [List.take_of_length_le (by simp)]
theorem eq_ifc {P:Program} {T:TypeId} {ms:Array (String×TypeId)} {v:Value} {b:Bool} (hu:P.underlying T=some (.interface ms)) (hv:(v=.nilIface∧b=true)∨((∃ a c,v=.iface a c)∧b=false)):EqV P 1 T v .nilIface b:=⟨fun d w hd=>by
 cases d with
 | zero=>omega
 | succ d=>rcases hv with ⟨rfl,rfl⟩ | ⟨⟨a,c,rfl⟩,rfl⟩ <;> simp [Op.equalIn,run_underlying hu]⟩
theorem s_eqni {P:Program} {Q:Exit→Act→World→Prop} {K:List Value→List Deferred→World→Prop} {fr fr':List Value} {ds:List Deferred} {dst:Option Tmp} {ty:TypeId} {pos:String} {after:Array Edge} {g:Option (Nat×Bool)} {x:Operand} {t t':TypeId} {v:Value} {b:Bool} {ms:Array (String×TypeId)} (hu:P.underlying t=some (.interface ms)) (hx:Ev fr x v) (hv:(v=.nilIface∧b=true)∨((∃ a c,v=.iface a c)∧b=false)) (hp:Dt fr dst (.bool b) fr') (k:K fr' ds w) :
  OW P (Oper.mk dst (.binOp .eql t x (.const .nilIface) t') ty pos after g) fr ds w K Q:=by
 refine su ⟨fun ds w=>?_⟩ hp k
 have h1:=hx ds
 have h2:(F fr ds).eval (.const .nilIface)=.nilIface:=rfl
 have h3:=(eq_ifc hu hv).out Op.maxDepth w (by decide)
 rcases hv with ⟨rfl,rfl⟩ | ⟨⟨a,c,rfl⟩,rfl⟩ <;> simp [execOp,h1,h2,eqGuard,binOp,Op.equal,h3]
theorem parse_w {s:List UInt8} (hg:Le Gm μ0) (hl:s.length≤281474976710656) (hS:Sq μ0 w0 w rsF) :
  CallsV prog 49 [S s,.int .i64 10,.int .i64 64] w (fun v w'=>∃ n e,v=.tuple ⟨[.int .i64 n,e]⟩∧Sq μ0 w0 w' rsF∧(match Lib.parseIntB 64 s with | .ok k=>n=k∧e=.nilIface | .range=>n=Lib.intSat 64 s∧∃ a c,e=.iface a c | _=>n=0∧∃ a c,e=.iface a c)):=by
 have hsz:(⟨⟨s⟩⟩:ByteArray).size=s.length:=rfl
 obtain ⟨-,-,⟨e1,h1,h1'⟩,⟨e2,h2,h2'⟩⟩:=hg w hS.a
 cases hp:Lib.parseIntB 64 s
 ·rename_i k
  refine ⟨(strconv_ParseInt_10_at64_ok ⟨⟨s⟩⟩ (by omega) k hp w).mono fun e w' he=>?_⟩
  obtain ⟨rfl,hw⟩:=he
  refine ⟨k,.nilIface,rfl,?_,rfl,rfl⟩
  rcases hw with rfl | ⟨t,rfl⟩
  ·exact hS
  ·exact hS.grow (grow_of (Lib.bytesWorld_below w 5 t))
 ·refine ⟨(strconv_ParseInt_10_at64_syntax ⟨⟨s⟩⟩ (by omega) (by rw [show (⟨⟨s⟩⟩:ByteArray).data.toList=s from rfl,hp]) e1 w h1 h1').mono fun e w' he=>?_⟩
  obtain ⟨N,rfl,-,-,hb⟩:=he
  exact ⟨_,_,rfl,hS.grow (grow_of hb),rfl,_,_,rfl⟩
 ·refine ⟨(strconv_ParseInt_10_at64_range ⟨⟨s⟩⟩ (by omega) hp e2 w h2 h2').mono fun e w' he=>?_⟩
  obtain ⟨N,rfl,-,-,hb⟩:=he
  exact ⟨_,_,rfl,hS.grow (grow_of hb),rfl,_,_,rfl⟩
theorem format_w {n:Int} (hg:Le Gm μ0) (h0:-9223372036854775808≤n) (h1:n≤9223372036854775807) (hS:Sq μ0 w0 w rsF) :
  CallsV prog 19 [.int .i64 n,.int .i64 10] w (fun v w'=>v=S (Lib.itoa n)∧Sq μ0 w0 w' rsF):=by
 obtain ⟨-,ht,-⟩:=hg w hS.a
 refine ⟨(strconv_FormatInt_10 n h0 h1 w ht).mono fun e w' he=>?_⟩
 obtain ⟨rfl,k,os,rfl⟩:=he
 exact ⟨rfl,hS.grow (grow_grow' w k os)⟩
theorem parse_range {s:List UInt8} {k:Int} (h:Lib.parseIntB 64 s=.ok k):-9223372036854775808≤k∧k≤9223372036854775807:=by
 unfold Lib.parseIntB at h
 split at h
 ·cases h
 ·rename_i c r
  dsimp only at h
  split at h
  ·cases h
  ·cases h
  ·rename_i u hu
   split at h
   ·cases h
   ·split at h
    ·cases h
    ·simp at h
     split at h <;> omega
theorem asm_number_w {s:List UInt8} {r:Int×Bool} (hg:Le Gm μ0) (g:asm_number s=some r) (hS:Sq μ0 w0 w rsF) :
  CallsV prog 37 [S s] w (fun v w'=>v=.tuple ⟨[.int .i64 r.1,.bool r.2]⟩∧Sq μ0 w0 w' rsF):=by
 unfold asm_number at g
 split at g
 ·rename_i hl
  obtain rfl:=Option.some.inj g
  clear g
  refine enter func37 rfl (frm:=[_,_,_,_,_,_,_,_,_,_,_,_,_,_,_,_,_,_,_,_]) rfl ?_
  refine cseq ?_
  refine creg ?_
  refine wl (s_assign ec (dt p2) ?_)
  refine wl (s_assign ec (dt p3) ?_)
  refine wnil ?_
  refine xn ?_
  refine cseq ?_
  refine creg ?_
  refine wl (s_move (et d0) (dt p7) ?_)
  refine wl (s_callv isfn49 ef (e1 (et d7) (e1 ec (e1 ec e0))) (parse_w hg hl hS) ?_)
  rintro _ w1 ⟨n,e,rfl,hS,hp⟩
  refine pu (dt p8) ?_
  refine wl (s_move (et d8) (dt p6) ?_)
  refine wl (s_extr (et d6) d0 (dt p9) ?_)
  refine wl (s_extr (et d6) d1 (dt (ps p0)) ?_)
  refine wl (s_assign (et d9) (dt p4) ?_)
  refine wl (s_assign (et (ds d0)) (dt p5) ?_)
  refine wnil ?_
  refine xn ?_
  refine cseq ?_
  refine creg ?_
  refine wl (s_move (et d4) (dt (ps p1)) ?_)
  refine wl (s_move (et d5) (dt (ps p2)) ?_)
  cases hpp:Lib.parseIntB 64 s
  ·rename_i k
   rw [hpp] at hp
   obtain ⟨rfl,rfl⟩:=hp
   obtain ⟨h0,h1⟩:=parse_range hpp
   refine wl (s_eqni underlying45 (et (ds d2)) (.inl ⟨rfl,rfl⟩) (dt (ps p3)) ?_)
   refine wl (s_move (et (ds d3)) (dt (ps p4)) ?_)
   refine wy rfl (ds d4) (s_move (et d4) (dt (ps p5)) ?_)
   refine wy rfl (ds d4) (s_callv isfn19 ef (e1 (et (ds d5)) (e1 ec e0)) (format_w hg h0 h1 hS) ?_)
   rintro _ w2 ⟨rfl,hS⟩
   refine pu (dt (ps p6)) ?_
   refine wy rfl (ds d4) (s_move (et d0) (dt (ps p7)) ?_)
   refine wy rfl (ds d4) (s_eqs (et (ds d6)) (et (ds d7)) (dt (ps p8)) ?_)
   refine wl (s_pickt (et (ds d4)) (et (ds d8)) (dt (ps p9)) ?_)
   refine wl (s_assign (et (ds d1)) (dt p2) ?_)
   refine wl (s_assign (et (ds d9)) (dt p3) ?_)
   refine wnil ?_
   refine xn ?_
   refine cret ?_
   refine ret2 rfl d2 d3 ?_
   exact ⟨rfl,hS⟩
  ·rw [hpp] at hp
   obtain ⟨rfl,a,c,rfl⟩:=hp
   refine wl (s_eqni underlying45 (et (ds d2)) (.inr ⟨⟨_,_,rfl⟩,rfl⟩) (dt (ps p3)) ?_)
   refine wl (s_move (et (ds d3)) (dt (ps p4)) ?_)
   refine wn rfl (ds d4) rfl (dt (ps p5)) ?_
   refine wn rfl (ds d4) rfl (dt (ps p6)) ?_
   refine wn rfl (ds d4) rfl (dt (ps p7)) ?_
   refine wn rfl (ds d4) rfl (dt (ps p8)) ?_
   refine wl (s_pickf (et (ds d4)) ec (dt (ps p9)) ?_)
   refine wl (s_assign (et (ds d1)) (dt p2) ?_)
   refine wl (s_assign (et (ds d9)) (dt p3) ?_)
   refine wnil ?_
   refine xn ?_
   refine cret ?_
   refine ret2 rfl d2 d3 ?_
   exact ⟨rfl,hS⟩
  ·rw [hpp] at hp
   obtain ⟨rfl,a,c,rfl⟩:=hp
   refine wl (s_eqni underlying45 (et (ds d2)) (.inr ⟨⟨_,_,rfl⟩,rfl⟩) (dt (ps p3)) ?_)
   refine wl (s_move (et (ds d3)) (dt (ps p4)) ?_)
   refine wn rfl (ds d4) rfl (dt (ps p5)) ?_
   refine wn rfl (ds d4) rfl (dt (ps p6)) ?_
   refine wn rfl (ds d4) rfl (dt (ps p7)) ?_
   refine wn rfl (ds d4) rfl (dt (ps p8)) ?_
   refine wl (s_pickf (et (ds d4)) ec (dt (ps p9)) ?_)
   refine wl (s_assign (et (ds d1)) (dt p2) ?_)
   refine wl (s_assign (et (ds d9)) (dt p3) ?_)
   refine wnil ?_
   refine xn ?_
   refine cret ?_
   refine ret2 rfl d2 d3 ?_
   exact ⟨rfl,hS⟩
 ·cases g
end
theorem grow_growN (w:World) (n:Nat) (os:Array Obj):Grow w (Go.Sort.grow (w.drewN n) os):=⟨rfl,rfl,rfl,by simp [Go.Sort.grow],fun k hk _=>by
 simp only [Go.Sort.grow,World.heap_drewN]
 exact Array.getElem?_append_left hk⟩
theorem fmt_w {μ0:M} {w0 w:World} {rsF:List Res} {n:Int} {r:List UInt8} (hg:Le Gm μ0) (g:fmt10 n=some r) (hS:Sq μ0 w0 w rsF) :
  CallsV prog 19 [.int .i64 n,.int .i64 10] w (fun v w'=>v=S r∧Sq μ0 w0 w' rsF):=by
 unfold fmt10 at g
 split at g
 ·rename_i h
  obtain rfl:=Option.some.inj g
  obtain ⟨-,ht,-⟩:=hg w hS.a
  refine ⟨(strconv_FormatInt_10 n h.1 h.2 w ht).mono fun e w' he=>?_⟩
  obtain ⟨rfl,k,os,rfl⟩:=he
  exact ⟨rfl,hS.grow (grow_growN w k os)⟩
 ·cases g
theorem itoa_w {μ0:M} {w0 w:World} {rsF:List Res} {n:Int} {r:List UInt8} (hg:Le Gm μ0) (g:fmt10 n=some r) (hS:Sq μ0 w0 w rsF) :
  CallsV prog 14 [.int .i64 n] w (fun v w'=>v=S r∧Sq μ0 w0 w' rsF):=by
 unfold fmt10 at g
 split at g
 ·rename_i h
  obtain rfl:=Option.some.inj g
  obtain ⟨-,ht,-⟩:=hg w hS.a
  refine ⟨(strconv_Itoa n h.1 h.2 w ht).mono fun e w' he=>?_⟩
  obtain ⟨rfl,k,os,rfl⟩:=he
  exact ⟨rfl,hS.grow (grow_growN w k os)⟩
 ·cases g
end Go.Proofs.YtnjpnifbgldmiaaDoor
