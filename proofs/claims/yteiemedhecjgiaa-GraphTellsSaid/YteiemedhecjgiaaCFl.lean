/- Texts of Fl. -/
import Derived.Test.YteiemedhecjgiaaCXt
import Derived.Test.YteiemedhecjgiaaProg
import Derived.KernelRfl
import Derived.Shelf.Strings.Search1
import Derived.Shelf.Strings.Search2
import Derived.Shelf.Strings.Search3
import Derived.Shelf.LaysM
import Derived.Shelf.Strings.Shaped
import Derived.Shelf.Slices.Turned
import Derived.Ground.Names2Prog
import Derived.Shelf.Slices.Delete
import Derived.Shelf.Slices.Cells
import Derived.Shelf.Slices.Empties
import Derived.Test.YteiemedhecjgiaaCMd
import Derived.Test.YteiemedhecjgiaaCXu
import Derived.Lib.SlicesS
set_option linter.unusedSimpArgs false
set_option linter.unusedVariables false
set_option linter.unusedSectionVars false
namespace Go.Proofs.Yteiemedhecjgiaa
open Go.Wk Go.Xt Try
instance isfn6:IsFn prog 6:=isf func6
instance isfn7:IsFn prog 7:=isf func7
instance isfn9:IsFn prog 9:=isf func9
instance isfn10:IsFn prog 10:=isf func10
instance isfn11:IsFn prog 11:=isf func11
instance isfn12:IsFn prog 12:=isf func12
instance isfn13:IsFn prog 13:=isf func13
instance isfn17:IsFn prog 17:=isf func17
instance isfn18:IsFn prog 18:=isf func18
instance isfn19:IsFn prog 19:=isf func19
instance isfn20:IsFn prog 20:=isf func20
instance isfn21:IsFn prog 21:=isf func21
instance isfn22:IsFn prog 22:=isf func22
instance isfn23:IsFn prog 23:=isf func23
instance isfn24:IsFn prog 24:=isf func24
instance isfn25:IsFn prog 25:=isf func25
instance isfn26:IsFn prog 26:=isf func26
instance isfn27:IsFn prog 27:=isf func27
instance isfn28:IsFn prog 28:=isf func28
instance isfn29:IsFn prog 29:=isf func29
instance isfn30:IsFn prog 30:=isf func30
instance isfn31:IsFn prog 31:=isf func31
instance isfn36:IsFn prog 36:=isf func36
instance isfn37:IsFn prog 37:=isf func37
instance isfn38:IsFn prog 38:=isf func38
instance isfn39:IsFn prog 39:=isf func39
instance isfn41:IsFn prog 41:=isf func41
instance isfn42:IsFn prog 42:=isf func42
instance isfn43:IsFn prog 43:=isf func43
instance isfn44:IsFn prog 44:=isf func44
instance isfn45:IsFn prog 45:=isf func45
instance isfn46:IsFn prog 46:=isf func46
instance isfn47:IsFn prog 47:=isf func47
instance isfn55:IsFn prog 55:=isf func55
instance isfn56:IsFn prog 56:=isf func56
instance isfn57:IsFn prog 57:=isf func57
instance isfn58:IsFn prog 58:=isf func58
instance isfn59:IsFn prog 59:=isf func59
instance isfn60:IsFn prog 60:=isf func60
instance isfn61:IsFn prog 61:=isf func61
instance isfn62:IsFn prog 62:=isf func62
instance isfn63:IsFn prog 63:=isf func63
instance isfn64:IsFn prog 64:=isf func64
instance isfn65:IsFn prog 65:=isf func65
instance isfn66:IsFn prog 66:=isf func66
instance isfn67:IsFn prog 67:=isf func67
instance isfn68:IsFn prog 68:=isf func68
instance isfn73:IsFn prog 73:=isf func73
instance isfn74:IsFn prog 74:=isf func74
instance isfn75:IsFn prog 75:=isf func75
instance isfn76:IsFn prog 76:=isf func76
instance isfn77:IsFn prog 77:=isf func77
instance isfn78:IsFn prog 78:=isf func78
instance isfn79:IsFn prog 79:=isf func79
instance isfn80:IsFn prog 80:=isf func80
instance isfn81:IsFn prog 81:=isf func81
instance isfn82:IsFn prog 82:=isf func82
instance isfn83:IsFn prog 83:=isf func83
instance isfn84:IsFn prog 84:=isf func84
instance isfn85:IsFn prog 85:=isf func85
instance isfn92:IsFn prog 92:=isf func92
instance isfn93:IsFn prog 93:=isf func93
instance isfn94:IsFn prog 94:=isf func94
instance isfn95:IsFn prog 95:=isf func95
instance isfn96:IsFn prog 96:=isf func96
instance isfn97:IsFn prog 97:=isf func97
instance isfn98:IsFn prog 98:=isf func98
instance isfn99:IsFn prog 99:=isf func99
instance isfn100:IsFn prog 100:=isf func100
instance isfn101:IsFn prog 101:=isf func101
instance isfn102:IsFn prog 102:=isf func102
instance isfn106:IsFn prog 106:=isf func106
instance isfn107:IsFn prog 107:=isf func107
instance isfn108:IsFn prog 108:=isf func108
instance isfn109:IsFn prog 109:=isf func109
instance isfn110:IsFn prog 110:=isf func110
instance isfn112:IsFn prog 112:=isf func112
instance ti2:TI prog 2 false [.int .i64 0] 1 8:=tj (z:=.int .i64 0) underlying2
instance ti3:TI prog 3 false [.int .i64 0] 1 8:=tj (z:=.int .i64 0) underlying3
instance ti9:TI prog 9 false [S []] 1 16:=tj (z:=S []) underlying9
instance ti22:TI prog 22 false [.slice none 0 0] 1 24:=tj (z:=.slice none 0 0) underlying22
instance ti24:TI prog 24 false [.int .i64 0] 1 8:=tj (z:=.int .i64 0) underlying24
instance ti26:TI prog 26 true [.int .i64 0,.int .i64 0] 2 16:=tj (z:=.agg #[.int .i64 0,.int .i64 0]) underlying26
instance ti31:TI prog 31 true [S [],S [],S []] 3 48:=tj (z:=.agg #[S [],S [],S []]) underlying31
instance ti33:TI prog 33 false [.slice none 0 0] 1 24:=tj (z:=.slice none 0 0) underlying33
instance ti37:TI prog 37 true [S [],S [],S []] 3 48:=tj (z:=.agg #[S [],S [],S []]) underlying37
instance ti38:TI prog 38 false [.slice none 0 0] 1 24:=tj (z:=.slice none 0 0) underlying38
instance ti50:TI prog 50 false [.pointer none] 1 8:=tj (z:=.pointer none) underlying50
instance ti55:TI prog 55 true [.int .i64 0,S []] 2 24:=tj (z:=.agg #[.int .i64 0,S []]) underlying55
instance ti56:TI prog 56 false [.slice none 0 0] 1 24:=tj (z:=.slice none 0 0) underlying56
instance ti57:TI prog 57 false [.slice none 0 0] 1 24:=tj (z:=.slice none 0 0) underlying57
instance ti59:TI prog 59 true [.int .i64 0,S [],.int .i64 0,S [],.int .i64 0,S [],.int .i64 0,.slice none 0 0,.slice none 0 0] 9 128:=tj (z:=.agg #[.int .i64 0,S [],.int .i64 0,S [],.int .i64 0,S [],.int .i64 0,.slice none 0 0,.slice none 0 0]) underlying59
instance ti61:TI prog 61 true [.slice none 0 0,.slice none 0 0,.slice none 0 0] 3 72:=tj (z:=.agg #[.slice none 0 0,.slice none 0 0,.slice none 0 0]) underlying61
instance ti63:TI prog 63 false [.pointer none] 1 8:=tj (z:=.pointer none) underlying63
instance ti64:TI prog 64 false [.pointer none] 1 8:=tj (z:=.pointer none) underlying64
instance ti65:TI prog 65 true [.slice none 0 0,.pointer none] 2 32:=tj (z:=.agg #[.slice none 0 0,.pointer none]) underlying65
instance ti79:TI prog 79 false [.map none] 1 8:=tj (z:=.map none) underlying79
instance ti95:TI prog 95 true [.slice none 0 0,.map none] 2 32:=tj (z:=.agg #[.slice none 0 0,.map none]) underlying95
instance ti97:TI prog 97 false [.nilFunc] 1 8:=tj (z:=.nilFunc) underlying97
instance ti104:TI prog 104 true [.int .i64 0] 1 8:=tj (z:=.agg #[.int .i64 0]) underlying104
instance ti107:TI prog 107 true [S [],.int .i64 0,S []] 3 40:=tj (z:=.agg #[S [],.int .i64 0,S []]) underlying107
instance ti110:TI prog 110 false [.slice none 0 0] 1 24:=tj (z:=.slice none 0 0) underlying110
instance ti113:TI prog 113 true [S [],S []] 2 32:=tj (z:=.agg #[S [],S []]) underlying113
instance ti117:TI prog 117 false [.slice none 0 0] 1 24:=tj (z:=.slice none 0 0) underlying117
instance ti119:TI prog 119 true [.int .i64 0,.int .i64 0,S [],.slice none 0 0] 4 56:=tj (z:=.agg #[.int .i64 0,.int .i64 0,S [],.slice none 0 0]) underlying119
instance ti121:TI prog 121 true [.int .i64 0,S [],.int .i64 0,.int .i64 0,S [],.slice none 0 0,.slice none 0 0,.slice none 0 0] 8 128:=tj (z:=.agg #[.int .i64 0,S [],.int .i64 0,.int .i64 0,S [],.slice none 0 0,.slice none 0 0,.slice none 0 0]) underlying121
instance ti137:TI prog 137 true [.int .i64 0] 1 8:=tj (z:=.agg #[.int .i64 0]) underlying137
instance ti140:TI prog 140 false [.pointer none] 1 8:=tj (z:=.pointer none) underlying140
instance ti141:TI prog 141 false [.map none] 1 8:=tj (z:=.map none) underlying141
instance ti142:TI prog 142 false [.slice none 0 0] 1 24:=tj (z:=.slice none 0 0) underlying142
instance ti144:TI prog 144 true [.pointer none,.pointer none,.slice none 0 0] 3 40:=tj (z:=.agg #[.pointer none,.pointer none,.slice none 0 0]) underlying144
instance ti168:TI prog 168 false [.nilFunc] 1 8:=tj (z:=.nilFunc) underlying168
instance ti169:TI prog 169 false [.nilFunc] 1 8:=tj (z:=.nilFunc) underlying169
theorem eg26:prog.eqGuardType prog.depth 26=false:=by kernel_rfl
theorem eg37:prog.eqGuardType prog.depth 37=false:=by kernel_rfl
theorem eg55:prog.eqGuardType prog.depth 55=false:=by kernel_rfl
theorem eh26:prog.stoodInHeld 26=false:=by kernel_rfl
theorem eh37:prog.stoodInHeld 37=false:=by kernel_rfl
theorem eh55:prog.stoodInHeld 55=false:=by kernel_rfl
instance fa104_0:FA prog 104 0 0:=fa_of underlying104 rfl rfl rfl ti3 rfl
instance fa107_0:FA prog 107 0 0:=fa_of underlying107 rfl rfl rfl ti9 rfl
instance fa107_1:FA prog 107 1 1:=fa_of underlying107 rfl rfl rfl ti55 rfl
instance fa113_0:FA prog 113 0 0:=fa_of underlying113 rfl rfl rfl ti9 rfl
instance fa113_1:FA prog 113 1 1:=fa_of underlying113 rfl rfl rfl ti9 rfl
instance fa119_0:FA prog 119 0 0:=fa_of underlying119 rfl rfl rfl ti3 rfl
instance fa119_1:FA prog 119 1 1:=fa_of underlying119 rfl rfl rfl ti2 rfl
instance fa119_2:FA prog 119 2 2:=fa_of underlying119 rfl rfl rfl ti9 rfl
instance fa119_3:FA prog 119 3 3:=fa_of underlying119 rfl rfl rfl ti117 rfl
instance fa121_0:FA prog 121 0 0:=fa_of underlying121 rfl rfl rfl ti3 rfl
instance fa121_1:FA prog 121 1 1:=fa_of underlying121 rfl rfl rfl ti9 rfl
instance fa121_2:FA prog 121 2 2:=fa_of underlying121 rfl rfl rfl ti119 rfl
instance fa121_3:FA prog 121 3 6:=fa_of underlying121 rfl rfl rfl ti57 rfl
instance fa121_4:FA prog 121 4 7:=fa_of underlying121 rfl rfl rfl ti57 rfl
instance fa137_0:FA prog 137 0 0:=fa_of underlying137 rfl rfl rfl ti3 rfl
instance fa144_0:FA prog 144 0 0:=fa_of underlying144 rfl rfl rfl ti50 rfl
instance fa144_1:FA prog 144 1 1:=fa_of underlying144 rfl rfl rfl ti63 rfl
instance fa144_2:FA prog 144 2 2:=fa_of underlying144 rfl rfl rfl ti142 rfl
instance fa26_0:FA prog 26 0 0:=fa_of underlying26 rfl rfl rfl ti24 rfl
instance fa31_0:FA prog 31 0 0:=fa_of underlying31 rfl rfl rfl ti9 rfl
instance fa31_1:FA prog 31 1 1:=fa_of underlying31 rfl rfl rfl ti9 rfl
instance fa31_2:FA prog 31 2 2:=fa_of underlying31 rfl rfl rfl ti9 rfl
instance fa37_1:FA prog 37 1 1:=fa_of underlying37 rfl rfl rfl ti9 rfl
instance fa37_2:FA prog 37 2 2:=fa_of underlying37 rfl rfl rfl ti9 rfl
instance fa55_0:FA prog 55 0 0:=fa_of underlying55 rfl rfl rfl ti3 rfl
instance fa55_1:FA prog 55 1 1:=fa_of underlying55 rfl rfl rfl ti9 rfl
instance fa59_0:FA prog 59 0 0:=fa_of underlying59 rfl rfl rfl ti3 rfl
instance fa59_1:FA prog 59 1 1:=fa_of underlying59 rfl rfl rfl ti9 rfl
instance fa59_2:FA prog 59 2 2:=fa_of underlying59 rfl rfl rfl ti55 rfl
instance fa59_3:FA prog 59 3 4:=fa_of underlying59 rfl rfl rfl ti55 rfl
instance fa59_4:FA prog 59 4 6:=fa_of underlying59 rfl rfl rfl ti3 rfl
instance fa59_5:FA prog 59 5 7:=fa_of underlying59 rfl rfl rfl ti56 rfl
instance fa59_6:FA prog 59 6 8:=fa_of underlying59 rfl rfl rfl ti57 rfl
instance fa61_0:FA prog 61 0 0:=fa_of underlying61 rfl rfl rfl ti38 rfl
instance fa61_1:FA prog 61 1 1:=fa_of underlying61 rfl rfl rfl ti38 rfl
instance fa61_2:FA prog 61 2 2:=fa_of underlying61 rfl rfl rfl ti38 rfl
instance fa65_0:FA prog 65 0 0:=fa_of underlying65 rfl rfl rfl ti38 rfl
instance fa65_1:FA prog 65 1 1:=fa_of underlying65 rfl rfl rfl ti64 rfl
instance fa95_1:FA prog 95 1 1:=fa_of underlying95 rfl rfl rfl ti79 rfl
theorem pl104:PL prog 104 #[(0,1)]:=pl_of underlying104 (fun _=>by kernel_rfl)
theorem pl113:PL prog 113 #[(0,1),(1,1)]:=pl_of underlying113 (fun _=>by kernel_rfl)
theorem pl119:PL prog 119 #[(0,1),(1,1),(2,1),(3,1)]:=pl_of underlying119 (fun _=>by kernel_rfl)
theorem pl121:PL prog 121 #[(0,1),(1,1),(2,4),(6,1),(7,1)]:=pl_of underlying121 (fun _=>by kernel_rfl)
theorem pl137:PL prog 137 #[(0,1)]:=pl_of underlying137 (fun _=>by kernel_rfl)
theorem pl144:PL prog 144 #[(0,1),(1,1),(2,1)]:=pl_of underlying144 (fun _=>by kernel_rfl)
theorem pl26:PL prog 26 #[(0,1),(1,1)]:=pl_of underlying26 (fun _=>by kernel_rfl)
theorem pl31:PL prog 31 #[(0,1),(1,1),(2,1)]:=pl_of underlying31 (fun _=>by kernel_rfl)
theorem pl37:PL prog 37 #[(0,1),(1,1),(2,1)]:=pl_of underlying37 (fun _=>by kernel_rfl)
theorem pl55:PL prog 55 #[(0,1),(1,1)]:=pl_of underlying55 (fun _=>by kernel_rfl)
theorem pl59:PL prog 59 #[(0,1),(1,1),(2,2),(4,2),(6,1),(7,1),(8,1)]:=pl_of underlying59 (fun _=>by kernel_rfl)
theorem pl65:PL prog 65 #[(0,1),(1,1)]:=pl_of underlying65 (fun _=>by kernel_rfl)
theorem pl95:PL prog 95 #[(0,1),(1,1)]:=pl_of underlying95 (fun _=>by kernel_rfl)
theorem zv3:∀ w,(zeroValue 3).run prog w=.ok (.int .i64 0) w:=zv_of (by kernel_rfl)
theorem zv55:∀ w,(zeroValue 55).run prog w=.ok (.agg #[.int .i64 0,S []]) w:=zv_of (by kernel_rfl)
theorem zv61:∀ w,(zeroValue 61).run prog w=.ok (.agg #[.slice none 0 0,.slice none 0 0,.slice none 0 0]) w:=zv_of (by kernel_rfl)
theorem zv63:∀ w,(zeroValue 63).run prog w=.ok (.pointer none) w:=zv_of (by kernel_rfl)
end Go.Proofs.Yteiemedhecjgiaa
namespace Go.Proofs
open Go.Shelf
def Try.lays144_ren:Go.Shelf.Ren:=⟨fun | 144=>93 | 143=>105 | 219=>111 | 217=>113 | 225=>114 | 224=>115 | 267=>116 | 266=>117 | 314=>118 | n=>n,fun | 9=>9 | 4=>4 | 3=>3 | 5=>5 | 46=>197 | 146=>199 | 51=>198 | n=>n,fun | 1=>0 | n=>n⟩
theorem Try.lays144:Go.Proofs.Lays.n144 Try.prog Try.lays144_ren:={
 mixed:=by kernel_rfl
 f143:=Try.func105.trans (congrArg some (by kernel_rfl))
 f144:=Try.func93.trans (congrArg some (by kernel_rfl))
 f217:=Try.func113.trans (congrArg some (by kernel_rfl))
 f219:=Try.func111.trans (congrArg some (by kernel_rfl))
 f224:=Try.func115.trans (congrArg some (by kernel_rfl))
 f225:=Try.func114.trans (congrArg some (by kernel_rfl))
 f266:=Try.func117.trans (congrArg some (by kernel_rfl))
 f267:=Try.func116.trans (congrArg some (by kernel_rfl))
 f314:=Try.func118.trans (congrArg some (by kernel_rfl))
 t3:=Try.underlying3
 a3:=Try.isAgg3
 z3:=Try.sizeOf3
 v3:=Try.zeroValue3
 t4:=Try.underlying4
 a4:=Try.isAgg4
 z4:=Try.sizeOf4
 v4:=Try.zeroValue4
 t5:=Try.underlying5
 a5:=Try.isAgg5
 z5:=Try.sizeOf5
 v5:=Try.zeroValue5
 t9:=Try.underlying9
 a9:=Try.isAgg9
 z9:=Try.sizeOf9
 v9:=Try.zeroValue9
 t46:=Try.underlying197
 a46:=Try.isAgg197
 z46:=Try.sizeOf197
 v46:=Try.zeroValue197
 t51:=Try.underlying198
 a51:=Try.isAgg198
 z51:=Try.sizeOf198
 v51:=Try.zeroValue198
 t146:=Try.underlying199
 a146:=Try.isAgg199
 z146:=Try.sizeOf199
 v146:=Try.zeroValue199
 g1:=by kernel_rfl }
open Go.RowKit Go.Lib in
theorem Try.strings_Contains (s sub:ByteArray) (m:Int) (w:World) (hs:s.size<4294967281) (hm:w.cell? ⟨0,0,none⟩=some (.int .i64 m)) :
  Calls Try.prog 93 #[.string s,.string sub] w fun e w'=>e=.returned (.bool (Lib.contains s.data.toList sub.data.toList))∧w'=w:=Any.strings_Contains Try.lays144 s sub m w hs hm
def Try.lays110_ren:Go.Shelf.Ren:=⟨fun | 110=>19 | 109=>40 | n=>n,fun | 31=>38 | 9=>9 | 4=>4 | 3=>3 | 0=>0 | n=>n,fun | n=>n⟩
theorem Try.lays110:Go.Proofs.Lays.n110 Try.prog Try.lays110_ren:={
 mixed:=by kernel_rfl
 f109:=Try.func40.trans (congrArg some (by kernel_rfl))
 f110:=Try.func19.trans (congrArg some (by kernel_rfl))
 t0:=Try.underlying0
 a0:=Try.isAgg0
 z0:=Try.sizeOf0
 v0:=Try.zeroValue0
 t3:=Try.underlying3
 a3:=Try.isAgg3
 z3:=Try.sizeOf3
 v3:=Try.zeroValue3
 t4:=Try.underlying4
 a4:=Try.isAgg4
 z4:=Try.sizeOf4
 v4:=Try.zeroValue4
 t9:=Try.underlying9
 a9:=Try.isAgg9
 z9:=Try.sizeOf9
 v9:=Try.zeroValue9
 t31:=Try.underlying38
 a31:=Try.isAgg38
 z31:=Try.sizeOf38
 v31:=Try.zeroValue38 }
open Go.Lib in
theorem Try.slices_Contains_string (b off n c:Nat) (zs:List ByteArray) (x:ByteArray) (w:World) (hz:n≤zs.length) (hbig:n≤9223372036854775807) (hc:∀ j,j<zs.length→w.cell? ⟨b,off+j,none⟩=some (.string (zs.getD j ByteArray.empty))) :
  Calls Try.prog 19 #[.slice (some ⟨b,off,none⟩) n c,.string x] w fun e w'=>e=.returned (.bool (Lib.containsS (zs.take n) x))∧w'=w:=Any.slices_Contains_string Try.lays110 b off n c zs x w hz hbig hc
open Go.Lib in
theorem Try.slices_Contains_string_empty (a:Option Addr) (c:Nat) (x:ByteArray) (w:World) :
  Calls Try.prog 19 #[.slice a 0 c,.string x] w fun e w'=>e=.returned (.bool false)∧w'=w:=Any.slices_Contains_string_empty Try.lays110 a c x w
end Go.Proofs
namespace Go.Proofs.Yteiemedhecjgiaa
open Go.Wk Go.Xt Go.Y Try
def Gm:M:=fun w=>∃ m,w.cell? ⟨0,0,none⟩=some (.int .i64 m)
theorem scont_w {μ0:M} {w0 w:World} {rsF:List Res} {l sub:List UInt8} {b:Bool} (hg:Le Gm μ0) (g:scont l sub=some b) (hS:Sq μ0 w0 w rsF) :
  CallsV prog 93 [S l,S sub] w (fun v w'=>v=.bool b∧Sq μ0 w0 w' rsF):=by
 unfold scont at g
 split at g
 ·rename_i hl
  obtain rfl:=Option.some.inj g
  obtain ⟨m,hm⟩:=hg w hS.a
  refine ⟨(strings_Contains ⟨⟨l⟩⟩ ⟨⟨sub⟩⟩ m w hl hm).mono fun e w' he=>?_⟩
  obtain ⟨rfl,rfl⟩:=he
  exact ⟨rfl,hS⟩
 ·cases g
end Go.Proofs.Yteiemedhecjgiaa
namespace Go.Proofs.Yteiemedhecjgiaa
open Go.Wk Go.Xt Go.Y Go.RowKit Try
section
variable {μ μ0:M} {w0 w:World} {rsF rs:List Res}
def Cells1 (w:World) (v:Value) (vs:List Value):Prop:=(vs=[]∧∃ a c,v=.slice a 0 c)∨∃ b o c,v=.slice (some ⟨b,o,none⟩) vs.length c∧vs.length≤9223372036854775807∧∀ j y,vs[j]?=some y→w.cell? ⟨b,o+j,none⟩=some y
theorem rw_cells {α:Type} [Mo α] {f:α→Value} (hf:∀ (μ:M) (l:List Value) (x:α),Mo.cs μ l x→l=[f x]):∀ {l:List α} {cells:List Value},Rw μ cells l→cells=l.map f
 | [],cells,h=>by rw [Rw] at h; simp [h]
 | x::l,cells,h=>by
  rw [Rw] at h
  obtain ⟨cs,t,rfl,h1,h2⟩:=h
  rw [hf _ _ _ h1,rw_cells hf h2]; rfl
theorem cells_row {α:Type} [Mo α] {f:α→Value} (hf:∀ (μ:M) (l:List Value) (x:α),Mo.cs μ l x→l=[f x]) {v:Value} {T:TypeId} {l:List α} {cells:List Value} (h:Row w v T 1 l.length cells) (hr:Rw μ cells l):Cells1 w v (l.map f):=by
 have e:=rw_cells hf hr
 subst e
 rcases h.2 with ⟨rfl,h2⟩ | ⟨g,o,cap,cur,rfl,hg,h1,h2,h3,h4⟩
 ·exact .inl ⟨by rw [List.length_eq_zero_iff.1 h2]; rfl,none,0,rfl⟩
 ·refine .inr ⟨g,o,cap,by simp,by simp; exact Nat.le_trans h1 (Nat.le_trans h2 (by decide)),fun j y hj=>?_⟩
  rw [cell_of_row w g (o+j) cur T (0,0) hg]
  rw [← h4,List.getElem?_take] at hj
  split at hj
  ·rw [List.getElem?_drop] at hj; simpa using hj
  ·cases hj
theorem cells_sl {α:Type} [Mo α] {f:α→Value} (hf:∀ (μ:M) (l:List Value) (x:α),Mo.cs μ l x→l=[f x]) (hsz:Mo.sz α=1) {a:Option Addr} {c:Nat} {l:List α} (h:Sl μ a c l) (hw:μ w):Cells1 w (.slice a l.length c) (l.map f):=by
 rcases h.el with rfl | ⟨b,o,rfl,gg,hel⟩
 ·exact .inl ⟨rfl,a,c,rfl⟩
 ·refine .inr ⟨b,o,c,by simp,by simp; exact Sl.len h,fun j y hj=>?_⟩
  simp only [List.getElem?_map,Option.map_eq_some_iff] at hj
  obtain ⟨x,hx,rfl⟩:=hj
  obtain ⟨h1,h2⟩:=hel j x hx
  rw [hf _ _ _ h2,hsz] at h1
  have:=h1 w hw 0 _ rfl
  simpa using this
theorem str1 (μ:M) (l:List Value) (x:List UInt8) (h:Mo.cs μ l x):l=[S x]:=h
theorem contains_s_c {v:Value} {l:List (List UInt8)} {x:List UInt8} (h:Cells1 w v (l.map S)):CallsV prog 19 [v,S x] w (fun v w'=>v=.bool (l.contains x)∧w'=w):=by
 rcases h with ⟨h1,a,c,rfl⟩ | ⟨b,o,c,rfl,hl,hc⟩
 ·obtain rfl:l=[]:=List.map_eq_nil_iff.1 h1
  exact ⟨(slices_Contains_string_empty a c ⟨⟨x⟩⟩ w).mono fun e w' he=>by
   obtain ⟨rfl,rfl⟩:=he
   exact ⟨rfl,rfl⟩⟩
 ·refine ⟨(slices_Contains_string b o (l.map S).length c (l.map fun y=>⟨⟨y⟩⟩) ⟨⟨x⟩⟩ w (by simp) hl ?_).mono fun e w' he=>?_⟩
  ·intro j hj
   have hj2:j<l.length:=by simpa using hj
   rw [hc j (S l[j]) (by simp [hj2])]
   simp [List.getElem?_eq_getElem hj2,S]
  ·obtain ⟨rfl,rfl⟩:=he
   refine ⟨?_,rfl⟩
   congr 1
   rw [List.take_of_length_le (by simp),Bool.eq_iff_iff,Lib.containsS_iff,List.contains_iff_mem]
   constructor
   ·intro hm
    obtain ⟨y,hy,e⟩:=List.mem_map.1 hm
    have e2:y=x:=congrArg (fun b:ByteArray=>b.data.toList) e
    rwa [← e2]
   ·exact fun hm=>List.mem_map.2 ⟨x,hm,rfl⟩
end
end Go.Proofs.Yteiemedhecjgiaa
namespace Go.Proofs
open Go.Shelf
def Try.laysNm224_ren : Go.Shelf.Ren := ⟨fun | 24 => 30 | n => n, fun | 24 => 38 | 9 => 9 | 3 => 3 | 4 => 4 | 0 => 0 | n => n, fun | n => n⟩
theorem Try.laysNm224 : Go.Proofs.Lays2.n24 Try.prog Try.laysNm224_ren := {
  mixed := by kernel_rfl
  f24 := Try.func30.trans (congrArg some (by kernel_rfl))
  t0 := Try.underlying0
  a0 := Try.isAgg0
  z0 := Try.sizeOf0
  v0 := Try.zeroValue0
  t3 := Try.underlying3
  a3 := Try.isAgg3
  z3 := Try.sizeOf3
  v3 := Try.zeroValue3
  t4 := Try.underlying4
  a4 := Try.isAgg4
  z4 := Try.sizeOf4
  v4 := Try.zeroValue4
  t9 := Try.underlying9
  a9 := Try.isAgg9
  z9 := Try.sizeOf9
  v9 := Try.zeroValue9
  t24 := Try.underlying38
  a24 := Try.isAgg38
  z24 := Try.sizeOf38
  v24 := Try.zeroValue38
  i9 := by kernel_rfl }
open Go.RowKit Go.Lib Go.Sort in
theorem Try.slices_Delete_string (blk off cap i j : Nat) (zs : List (List UInt8)) (w : World) (hH : Holds encStr w blk off zs.toArray) (hcap : zs.length ≤ cap) (hm : cap ≤ 9223372036854775807) (hij : i ≤ j) (hj : j ≤ zs.length) :
    Calls Try.prog 30 #[.slice (some ⟨blk, off, none⟩) zs.length cap, .int .i64 i, .int .i64 j] w fun e w' => e = .returned (.slice (some ⟨blk, off, none⟩) (zs.length - (j - i)) cap) ∧ ∃ q, w' = putRow encStr (Sort.ahead w q) blk off (zs.take i ++ zs.drop j ++ List.replicate (j - i) []).toArray := Any.slices_Delete_string Try.laysNm224 blk off cap i j zs w hH hcap hm hij hj
open Go.RowKit Go.Lib in
theorem Try.slices_Delete_string_empty (a : Option Addr) (c : Nat) (w : World) :
    Calls Try.prog 30 #[.slice a 0 c, .int .i64 0, .int .i64 0] w fun e w' => e = .returned (.slice a 0 c) ∧ w' = w := Any.slices_Delete_string_empty Try.laysNm224 a c w
end Go.Proofs
namespace Go.Proofs.Yteiemedhecjgiaa
open Go.Wk Go.Xt Go.Y Go.RowKit
section
variable {μ μ0 : M} {w0 w : World} {rsF rs : List Res}
theorem rw_of_mapS {μ : M} : ∀ (l : List (List UInt8)), Rw μ (l.map S) l
  | [] => rfl
  | x :: l => ⟨[S x], _, rfl, rfl, rw_of_mapS l⟩
theorem del_s_w {v : Value} {T : TypeId} {cells : List Value} {l l' : List (List UInt8)} {i j : Int} (hr : Rw μ0 cells l) (g : del_ l i j = some l') (hS : Sq μ0 w0 w (.row v T 1 l.length cells :: rsF)) :
    CallsV Try.prog 30 [v, .int .i64 i, .int .i64 j] w (fun v' w' => ∃ cells', Rw μ0 cells' l' ∧ Sq μ0 w0 w' (.row v' T 1 l'.length cells' :: rsF)) := by
  obtain ⟨⟨h1, h2, h3⟩, rfl⟩ := del_eq g
  obtain ⟨i, rfl⟩ : ∃ n : Nat, i = n := ⟨i.toNat, by omega⟩
  obtain ⟨j, rfl⟩ : ∃ n : Nat, j = n := ⟨j.toNat, by omega⟩
  simp only [Int.toNat_natCast]
  have hrow : Row w v T 1 l.length cells := hS.all _ (List.mem_cons_self ..)
  have ec : cells = l.map S := rw_cells str1 hr
  subst ec
  have mk : ∀ (w' : World) (v' : Value) (ys : List (List UInt8)), Row w' v' T 1 ys.length (ys.map S) → Keeps (fun b => some b ≠ v.ownBlock) w w' → v'.ownBlock = v.ownBlock → ∃ cells', Rw μ0 cells' ys ∧ Sq μ0 w0 w' (.row v' T 1 ys.length cells' :: rsF) := fun w' v' ys q1 q2 q3 =>
    ⟨ys.map S, rw_of_mapS ys, Sep.row hS (d0 (α := Res)) (p0 (α := Res)) q1 q2 (.inl q3)⟩
  rcases hrow.2 with ⟨rfl, h0⟩ | ⟨b, o, cap, cur, rfl, hg, q1, q2, q3, q4⟩
  · obtain rfl := List.eq_nil_of_length_eq_zero h0
    obtain rfl : j = 0 := by simp at h3; omega
    obtain rfl : i = 0 := by omega
    exact ⟨(Try.slices_Delete_string_empty none 0 w).mono fun e w' he => by
      obtain ⟨rfl, rfl⟩ := he
      exact mk _ _ [] hrow (Keeps.refl _) rfl⟩
  · refine ⟨(Try.slices_Delete_string b o cap i j l w ?_ q1 q2 (by omega) (by omega)).mono fun e w' he => ?_⟩
    · intro k hk
      have hk' : k < l.length := by simpa using hk
      refine ⟨?_, frozen_row hg⟩
      rw [cell_of_row w b (o + k) cur T (0, 0) hg]
      have e1 : (l.map S)[k]? = some (S l[k]) := by simp [hk']
      rw [← q4, List.getElem?_take, Nat.mul_one, if_pos hk', List.getElem?_drop] at e1
      rw [← Array.getElem?_toList, e1]
      congr 1
      rw [getElem!_pos _ k (by simpa using hk')]
      rfl
    · obtain ⟨rfl, q, rfl⟩ := he
      obtain ⟨r1, r2⟩ := row_del (q := q) hrow (show i ≤ j by omega) (show j ≤ l.length by omega)
      have len : (l.take i ++ l.drop j).length = l.length - (j - i) := by simp; omega
      have := mk _ _ _ r1 (r2.mono fun k hk h => hk (by rw [h]; rfl)) rfl
      rw [len] at this ⊢
      exact this
end
end Go.Proofs.Yteiemedhecjgiaa
