/- Texts of Wb. -/
import Derived.Test.YtbdiobhgejmgoaaDoorCMd
import Derived.Test.YtbdiobhgejmgoaaDoorCWa
import Derived.Tactics2
import Derived.Recover
import Derived.Laws.Pointers
set_option linter.unusedSimpArgs false
set_option linter.unusedVariables false
set_option linter.unusedSectionVars false
set_option maxRecDepth 100000
set_option maxHeartbeats 20000000
namespace Go.Proofs.YtbdiobhgejmgoaaDoor
open Go.Wk Go.Xt Go.Y
structure ParESound (sf:ParE):Prop where
  p_expr:∀ {μ0:M} {w0 w:World} {rsF:List Res} (hg:Le Gm μ0) {b1:Nat} {left_2:List TToken} {a3:Option Addr} {c4:Nat} {end_6:Int} {deep_7:Int} {r:Except TFault (TExpr×List TToken×Int×Int)} (m5:Sl μ0 a3 c4 left_2) (h:sf.p_expr left_2 end_6 deep_7=some r) (hS:Sq μ0 w0 w (.blk b1 49 [.slice a3 left_2.length c4,.int .i64 end_6,.int .i64 deep_7]::rsF)),CallsT Tryd.prog 50 [.pointer (some ⟨b1,0,none⟩)] w Voops r (fun x v w'=>∃ (μ':M) (a8:Option Addr) (c9:Nat) (a11:Option Addr) (c12:Nat),v=.agg ⟨[.int .i64 x.1.Kind,.int .i64 x.1.N,S x.1.Name,.slice a8 x.1.Kids.length c9]⟩∧Le μ0 μ'∧Sq μ' w0 w' (.blk b1 49 [.slice a11 x.2.1.length c12,.int .i64 x.2.2.1,.int .i64 x.2.2.2]::rsF)∧Sl μ' a8 c9 x.1.Kids∧Sl μ' a11 c12 x.2.1) (EP μ0 w0 b1 49 rsF)
  p_level:∀ {μ0:M} {w0 w:World} {rsF:List Res} (hg:Le Gm μ0) {b1:Nat} {left_2:List TToken} {a3:Option Addr} {c4:Nat} {end_6:Int} {deep_7:Int} {p_2:Int} {r:Except TFault (TExpr×List TToken×Int×Int)} (m5:Sl μ0 a3 c4 left_2) (h:sf.p_level left_2 end_6 deep_7 p_2=some r) (hS:Sq μ0 w0 w (.blk b1 49 [.slice a3 left_2.length c4,.int .i64 end_6,.int .i64 deep_7]::rsF)),CallsT Tryd.prog 58 [.pointer (some ⟨b1,0,none⟩),.int .i64 p_2] w Voops r (fun x v w'=>∃ (μ':M) (a8:Option Addr) (c9:Nat) (a11:Option Addr) (c12:Nat),v=.agg ⟨[.int .i64 x.1.Kind,.int .i64 x.1.N,S x.1.Name,.slice a8 x.1.Kids.length c9]⟩∧Le μ0 μ'∧Sq μ' w0 w' (.blk b1 49 [.slice a11 x.2.1.length c12,.int .i64 x.2.2.1,.int .i64 x.2.2.2]::rsF)∧Sl μ' a8 c9 x.1.Kids∧Sl μ' a11 c12 x.2.1) (EP μ0 w0 b1 49 rsF)
  p_unary:∀ {μ0:M} {w0 w:World} {rsF:List Res} (hg:Le Gm μ0) {b1:Nat} {left_2:List TToken} {a3:Option Addr} {c4:Nat} {end_6:Int} {deep_7:Int} {r:Except TFault (TExpr×List TToken×Int×Int)} (m5:Sl μ0 a3 c4 left_2) (h:sf.p_unary left_2 end_6 deep_7=some r) (hS:Sq μ0 w0 w (.blk b1 49 [.slice a3 left_2.length c4,.int .i64 end_6,.int .i64 deep_7]::rsF)),CallsT Tryd.prog 63 [.pointer (some ⟨b1,0,none⟩)] w Voops r (fun x v w'=>∃ (μ':M) (a8:Option Addr) (c9:Nat) (a11:Option Addr) (c12:Nat),v=.agg ⟨[.int .i64 x.1.Kind,.int .i64 x.1.N,S x.1.Name,.slice a8 x.1.Kids.length c9]⟩∧Le μ0 μ'∧Sq μ' w0 w' (.blk b1 49 [.slice a11 x.2.1.length c12,.int .i64 x.2.2.1,.int .i64 x.2.2.2]::rsF)∧Sl μ' a8 c9 x.1.Kids∧Sl μ' a11 c12 x.2.1) (EP μ0 w0 b1 49 rsF)
  p_primary:∀ {μ0:M} {w0 w:World} {rsF:List Res} (hg:Le Gm μ0) {b1:Nat} {left_2:List TToken} {a3:Option Addr} {c4:Nat} {end_6:Int} {deep_7:Int} {r:Except TFault (TExpr×List TToken×Int×Int)} (m5:Sl μ0 a3 c4 left_2) (h:sf.p_primary left_2 end_6 deep_7=some r) (hS:Sq μ0 w0 w (.blk b1 49 [.slice a3 left_2.length c4,.int .i64 end_6,.int .i64 deep_7]::rsF)),CallsT Tryd.prog 70 [.pointer (some ⟨b1,0,none⟩)] w Voops r (fun x v w'=>∃ (μ':M) (a8:Option Addr) (c9:Nat) (a11:Option Addr) (c12:Nat),v=.agg ⟨[.int .i64 x.1.Kind,.int .i64 x.1.N,S x.1.Name,.slice a8 x.1.Kids.length c9]⟩∧Le μ0 μ'∧Sq μ' w0 w' (.blk b1 49 [.slice a11 x.2.1.length c12,.int .i64 x.2.2.1,.int .i64 x.2.2.2]::rsF)∧Sl μ' a8 c9 x.1.Kids∧Sl μ' a11 c12 x.2.1) (EP μ0 w0 b1 49 rsF)
  p_args:∀ {μ0:M} {w0 w:World} {rsF:List Res} (hg:Le Gm μ0) {b1:Nat} {left_2:List TToken} {a3:Option Addr} {c4:Nat} {end_6:Int} {deep_7:Int} {r:Except TFault (List TExpr×List TToken×Int×Int)} (m5:Sl μ0 a3 c4 left_2) (h:sf.p_args left_2 end_6 deep_7=some r) (hS:Sq μ0 w0 w (.blk b1 49 [.slice a3 left_2.length c4,.int .i64 end_6,.int .i64 deep_7]::rsF)),CallsT Tryd.prog 78 [.pointer (some ⟨b1,0,none⟩)] w Voops r (fun x v w'=>∃ (μ':M) (a8:Option Addr) (c9:Nat) (a11:Option Addr) (c12:Nat),v=.slice a8 x.1.length c9∧Le μ0 μ'∧Sq μ' w0 w' (.blk b1 49 [.slice a11 x.2.1.length c12,.int .i64 x.2.2.1,.int .i64 x.2.2.2]::rsF)∧Sl μ' a8 c9 x.1∧Sl μ' a11 c12 x.2.1) (EP μ0 w0 b1 49 rsF)
  p_fixed:∀ {μ0:M} {w0 w:World} {rsF:List Res} (hg:Le Gm μ0) {b1:Nat} {left_2:List TToken} {a3:Option Addr} {c4:Nat} {end_6:Int} {deep_7:Int} {p_2:Int} {p_3:Int} {r:Except TFault (TExpr×List TToken×Int×Int)} (m5:Sl μ0 a3 c4 left_2) (h:sf.p_fixed left_2 end_6 deep_7 p_2 p_3=some r) (hS:Sq μ0 w0 w (.blk b1 49 [.slice a3 left_2.length c4,.int .i64 end_6,.int .i64 deep_7]::rsF)),CallsT Tryd.prog 77 [.pointer (some ⟨b1,0,none⟩),.int .i64 p_2,.int .i64 p_3] w Voops r (fun x v w'=>∃ (μ':M) (a8:Option Addr) (c9:Nat) (a11:Option Addr) (c12:Nat),v=.agg ⟨[.int .i64 x.1.Kind,.int .i64 x.1.N,S x.1.Name,.slice a8 x.1.Kids.length c9]⟩∧Le μ0 μ'∧Sq μ' w0 w' (.blk b1 49 [.slice a11 x.2.1.length c12,.int .i64 x.2.2.1,.int .i64 x.2.2.2]::rsF)∧Sl μ' a8 c9 x.1.Kids∧Sl μ' a11 c12 x.2.1) (EP μ0 w0 b1 49 rsF)
theorem p_expr_w {self:ParE} (IH:ParESound self) {μ0:M} {w0 w:World} {rsF:List Res} (hg:Le Gm μ0) {b1:Nat} {left_2:List TToken} {a3:Option Addr} {c4:Nat} {end_6:Int} {deep_7:Int} {r:Except TFault (TExpr×List TToken×Int×Int)} (m5:Sl μ0 a3 c4 left_2) (h:p_expr self left_2 end_6 deep_7=some r) (hS:Sq μ0 w0 w (.blk b1 49 [.slice a3 left_2.length c4,.int .i64 end_6,.int .i64 deep_7]::rsF)):CallsT Tryd.prog 50 [.pointer (some ⟨b1,0,none⟩)] w Voops r (fun x v w'=>∃ (μ':M) (a8:Option Addr) (c9:Nat) (a11:Option Addr) (c12:Nat),v=.agg ⟨[.int .i64 x.1.Kind,.int .i64 x.1.N,S x.1.Name,.slice a8 x.1.Kids.length c9]⟩∧Le μ0 μ'∧Sq μ' w0 w' (.blk b1 49 [.slice a11 x.2.1.length c12,.int .i64 x.2.2.1,.int .i64 x.2.2.2]::rsF)∧Sl μ' a8 c9 x.1.Kids∧Sl μ' a11 c12 x.2.1) (EP μ0 w0 b1 49 rsF):=by
  unfold p_expr at h
  refine enterFT Tryd.func50 rfl (frm:=[_,_,_,_,_,_,_]) rfl ?_
  refine cseq ?_
  refine creg ?_
  refine wl (s_alloc ti39 hS ?_); clear hS; intro b14 w1 hb15 hS; refine pu (dt p2) ?_
  refine wnil ?_
  refine xn ?_
  refine cseq ?_
  refine creg ?_
  refine wl (s_move (et d0) (dt p3) ?_)
  replace hS:=hS.bg (Bg.s Bg.z)
  rcases bTe h with ⟨e_,g17,rfl⟩ | ⟨r16,g17,h⟩
  · refine wl (s_callte isfn36 ef (e1 (et d3) e0) (p_into_w hg m5 g17 hS) ?_)
    rintro w_ ⟨μ_,v0_,v1_,i_,le_,hS⟩
    replace hS:=Sep.dropL (l:=[_]) hS
    exact thND (P:=Tryd.prog) (fn:=Tryd.f50) ⟨_,_,_,_,le_,hS⟩
  refine wl (s_callv isfn36 ef (e1 (et d3) e0) ((p_into_w hg m5 g17 hS).ok) ?_)
  rintro _ w2 ⟨μ1,b19,a20,c21,rfl,le18,hS,m22⟩
  refine pu (dt p4) ?_
  refine wl (s_defer (et d4) e0 dn ?_)
  refine wnil ?_
  refine xn ?_
  refine cseq ?_
  refine creg ?_
  refine wl (s_move (et d0) (dt p5) ?_)
  replace hS:=hS.bg (Bg.s Bg.z)
  rcases bTe h with ⟨e_,g24,rfl⟩ | ⟨r23,g24,h⟩
  · refine wl (s_callte isfn58 ef (e1 (et d5) (e1 ec e0)) (IH.p_level (hg.t le18) m22 g24 hS) ?_)
    rintro w_ ⟨μ_,v0_,v1_,i_,le_,hS⟩
    replace hS:=hS.bg (Bg.s Bg.z)
    refine thD isfn49 (p_outE hS) ?_; rintro _ w_ ⟨j_,hS⟩
    replace hS:=hS.drop Rm.z
    replace hS:=Sep.dropL (l:=[_]) hS
    exact thND (P:=Tryd.prog) (fn:=Tryd.f50) ⟨_,_,_,_,(le18.t le_),hS⟩
  refine wl (s_callv isfn58 ef (e1 (et d5) (e1 ec e0)) ((IH.p_level (hg.t le18) m22 g24 hS).ok) ?_)
  rintro _ w3 ⟨μ2,a26,c27,a29,c30,rfl,le25,hS,m28,m31⟩
  refine pu (dt p6) ?_
  refine wl (s_storeA ti39 (et d2) (et d6) rfl rfl hS d2 rfl p2 dn ?_)
  clear hS; intro w4 hS
  refine wnil ?_
  refine xn ?_
  refine cret ?_
  replace h:=bI h; obtain ⟨r32,g33,h⟩:=h
  replace hS:=hS.bg (Bg.s Bg.z)
  refine retDT isfn49 (p_out_w (hg.t (le18.t le25)) m31 g33 hS) ?_
  rintro _ w5 ⟨μ3,a35,c36,rfl,le34,hS,m37⟩
  obtain rfl:=oI h
  refine okTD ?_
  refine retDN rfl (RVs.s (.a d2 ti39 (hS.blk d2).cells rfl) RVs.z) ?_
  replace hS:=hS.drop Rm.z
  replace hS:=hS.drop (Rm.s Rm.z)
  exact ⟨_,a26,c27,a35,c36,rfl,(le18.t (le25.t le34)),hS,(m28.up le34),m37⟩
theorem p_level_w {self:ParE} (IH:ParESound self) {fu:Nat} {μ0:M} {w0 w:World} {rsF:List Res} (hg:Le Gm μ0) {b1:Nat} {left_2:List TToken} {a3:Option Addr} {c4:Nat} {end_6:Int} {deep_7:Int} {p_2:Int} {r:Except TFault (TExpr×List TToken×Int×Int)} (m5:Sl μ0 a3 c4 left_2) (h:p_level fu self left_2 end_6 deep_7 p_2=some r) (hS:Sq μ0 w0 w (.blk b1 49 [.slice a3 left_2.length c4,.int .i64 end_6,.int .i64 deep_7]::rsF)):CallsT Tryd.prog 58 [.pointer (some ⟨b1,0,none⟩),.int .i64 p_2] w Voops r (fun x v w'=>∃ (μ':M) (a8:Option Addr) (c9:Nat) (a11:Option Addr) (c12:Nat),v=.agg ⟨[.int .i64 x.1.Kind,.int .i64 x.1.N,S x.1.Name,.slice a8 x.1.Kids.length c9]⟩∧Le μ0 μ'∧Sq μ' w0 w' (.blk b1 49 [.slice a11 x.2.1.length c12,.int .i64 x.2.2.1,.int .i64 x.2.2.2]::rsF)∧Sl μ' a8 c9 x.1.Kids∧Sl μ' a11 c12 x.2.1) (EP μ0 w0 b1 49 rsF):=by
  unfold p_level at h
  refine enterT Tryd.func58 rfl (frm:=[_,_,_,_,_,_,_,_,_,_,_,_,_,_,_,_,_,_,_,_,_,_,_,_,_,_,_,_,_,_,_,_,_,_,_,_,_,_,_,_,_,_,_,_,_,_,_,_,_,_,_,_,_,_,_,_,_,_,_,_,_,_]) rfl ?_
  refine cseq ?_
  refine creg ?_
  refine wl (s_alloc ti39 hS ?_); clear hS; intro b14 w1 hb15 hS; refine pu (dt p4) ?_
  refine wnil ?_
  refine xn ?_
  refine cseq ?_
  refine creg ?_
  replace h:=bI h; obtain ⟨r16,g17,h⟩:=h
  refine wl (s_callv isfn62 ef e0 (p_levels_w hg g17 hS) ?_)
  rintro _ w2 ⟨μ1,a19,c20,rfl,le18,hS,m21⟩
  refine pu (dt p8) ?_
  refine wl (s_assign (et d8) (dt p5) ?_)
  refine wnil ?_
  refine xn ?_
  refine cseq ?_
  refine cseq ?_
  refine creg ?_
  refine wl (s_move (et d1) (dt p9) ?_)
  refine wl (s_move (et d5) (dt (q10 p0)) ?_)
  refine wl (s_lensl Tryd.underlying112 (et (k10 d0)) (dt (q10 p1)) ?_)
  refine wl (s_eqi (et d9) (et (k10 d1)) (dt (q10 p2)) ?_)
  refine wnil ?_
  refine xn ?_
  refine cifd (et (k10 d2)) (fun h22=>?_) (fun h22=>?_)
  · replace h:=iT h22 h
    refine cseq ?_
    refine creg ?_
    refine wl (s_move (et d0) (dt (q10 p3)) ?_)
    replace hS:=hS.bg (Bg.s Bg.z)
    rcases bTe h with ⟨e_,g24,rfl⟩ | ⟨r23,g24,h⟩
    · refine wl (s_callte isfn63 ef (e1 (et (k10 d3)) e0) (IH.p_unary (hg.t le18) (m5.up le18) g24 hS) ?_)
      rintro w_ ⟨μ_,v0_,v1_,i_,le_,hS⟩
      replace hS:=Sep.dropL (l:=[_]) hS
      exact thN (P:=Tryd.prog) (fn:=Tryd.f58) ⟨_,_,_,_,(le18.t le_),hS⟩
    refine wl (s_callv isfn63 ef (e1 (et (k10 d3)) e0) ((IH.p_unary (hg.t le18) (m5.up le18) g24 hS).ok) ?_)
    rintro _ w3 ⟨μ2,a26,c27,a29,c30,rfl,le25,hS,m28,m31⟩
    refine pu (dt (q10 p4)) ?_
    refine wl (s_storeA ti39 (et d4) (et (k10 d4)) rfl rfl hS d1 rfl p1 dn ?_)
    clear hS; intro w4 hS
    refine wnil ?_
    refine xn ?_
    refine cret ?_
    refine xr ?_
    obtain rfl:=oI h
    refine okT ?_
    refine retN rfl (RVs.s (.a d4 ti39 (hS.blk d1).cells rfl) RVs.z) ?_
    replace hS:=hS.drop (Rm.s Rm.z)
    exact ⟨_,a26,c27,a29,c30,rfl,(le18.t le25),hS,m28,m31⟩
  · replace h:=iF h22 h
    refine cskip ?_
    refine xn ?_
    refine cseq ?_
    refine creg ?_
    refine wl (s_move (et d0) (dt (q10 p5)) ?_)
    refine wl (s_move (et d1) (dt (q10 p6)) ?_)
    replace h:=bI h; obtain ⟨i33,g34,h⟩:=h
    refine wl (s_addc (et (k10 d6)) ec g34 (dt (q10 p7)) ?_)
    replace hS:=hS.bg (Bg.s Bg.z)
    rcases bTe h with ⟨e_,g36,rfl⟩ | ⟨r35,g36,h⟩
    · refine wl (s_callte isfn58 ef (e1 (et (k10 d5)) (e1 (et (k10 d7)) e0)) (IH.p_level (hg.t le18) (m5.up le18) g36 hS) ?_)
      rintro w_ ⟨μ_,v0_,v1_,i_,le_,hS⟩
      replace hS:=Sep.dropL (l:=[_]) hS
      exact thN (P:=Tryd.prog) (fn:=Tryd.f58) ⟨_,_,_,_,(le18.t le_),hS⟩
    refine wl (s_callv isfn58 ef (e1 (et (k10 d5)) (e1 (et (k10 d7)) e0)) ((IH.p_level (hg.t le18) (m5.up le18) g36 hS).ok) ?_)
    rintro _ w5 ⟨μ3,a38,c39,a41,c42,rfl,le37,hS,m40,m43⟩
    refine pu (dt (q10 p8)) ?_
    refine wl (s_alloc ti39 hS ?_); clear hS; intro b44 w6 hb45 hS; refine pu (dt p6) ?_
    refine wl (s_storeA ti39 (et d6) (et (k10 d8)) rfl rfl hS d0 rfl p0 dn ?_)
    clear hS; intro w7 hS
    refine wnil ?_
    refine xn ?_
    refine cseq ?_
    refine ccutE ([7]++rg 19 42) (by decide +kernel) (fun m w=>∃ (μx:M) (l48:List TToken) (a46:Option Addr) (c47:Nat) (i50:Int) (i51:Int) (i52:Int) (i53:Int) (s54:List UInt8) (l57:List TExpr) (a55:Option Addr) (c56:Nat),m=(yK7 (yO1 7 (yK10 (yK1 (yO20 19 (yO20 39 (yO2 59 [])))))))∧p_level_j1 l48 i50 i51 i52 i53 s54 l57=some r∧Le μ3 μx∧Sq μx w0 w (.blk b1 49 [.slice a46 l48.length c47,.int .i64 i50,.int .i64 i51]::.blk b14 39 [.int .i64 0,.int .i64 0,S [],.slice none 0 0]::.blk b44 39 [.int .i64 i52,.int .i64 i53,S s54,.slice a55 l57.length c56]::rsF)∧Sl μx a46 c47 l48∧Sl μx a55 c56 l57) (by rintro _ _ ⟨_,_,_,_,_,_,_,_,_,_,_,_,rfl,_⟩; rfl) ?_ ?_
    · refine cblock ?_
      replace hS:=hS.bg (Bg.s (Bg.s Bg.z))
      replace hS:=hS.bg (Bg.s (Bg.s Bg.z))
      refine cloopE ([7]++rg 19 42) (by decide +kernel) (fun n m w=>∃ (μx:M) (l114:List TToken) (a112:Option Addr) (c113:Nat) (i116:Int) (i117:Int) (i118:Int) (i119:Int) (s120:List UInt8) (l123:List TExpr) (a121:Option Addr) (c122:Nat),m=(yK7 (yO1 7 (yK10 (yK1 (yO20 19 (yO20 39 (yO2 59 [])))))))∧p_level_l1 self p_2 r16 n l114 i116 i117 i118 i119 s120 l123=some r∧Le μ3 μx∧Sq μx w0 w (.blk b1 49 [.slice a112 l114.length c113,.int .i64 i116,.int .i64 i117]::.blk b14 39 [.int .i64 0,.int .i64 0,S [],.slice none 0 0]::.blk b44 39 [.int .i64 i118,.int .i64 i119,S s120,.slice a121 l123.length c122]::rsF)∧Sl μx a112 c113 l114∧Sl μx a121 c122 l123) (by rintro _ _ _ ⟨_,_,_,_,_,_,_,_,_,_,_,_,rfl,_⟩; rfl) _ _ (aK7 (aO1 (aK10 (aK1 (aO20 (aO20 (aO2 aZ))))))) ⟨_,r35.2.1,a41,c42,r35.2.2.1,r35.2.2.2,r35.1.Kind,r35.1.N,r35.1.Name,r35.1.Kids,a38,c39,rfl,h,Le.r,hS,m43,m40⟩ ?_
      rintro n_1 _ t w8 ⟨μ4,l114,a112,c113,i116,i117,i118,i119,s120,l123,a121,c122,rfl,h,le178,hS,m179,m180⟩
      cases n_1 with
      | zero=>cases h
      | succ n_1 =>
      unfold p_level_l1 at h
      refine cnrm (mK7 (mO1 (mK10 (mK1 (mO20 (mO20 (mO2 mz))))))) ?_
      refine cseq ?_
      refine cseq ?_
      refine creg ?_
      refine wl (s_move (et d0) (dt (q10 p9)) ?_)
      refine wl (s_nilck (et (k10 d9)) (dt (q20 p0)) ?_)
      refine wl (s_fa fa49_0 (et (k20 d0)) rfl (dt (q20 p1)) ?_)
      refine wl (s_load ti42 (et (k20 d1)) ((hS.blk d0).cell d0) (dt (q20 p2)) ?_)
      refine wl (s_lensl Tryd.underlying42 (et (k20 d2)) (dt (q20 p3)) ?_)
      refine wl (s_gtr (et (k20 d3)) ec (dt (q20 p4)) ?_)
      refine wnil ?_
      refine xn ?_
      refine cifd (et (k20 d4)) (fun h181=>?_) (fun h181=>?_)
      · replace h:=iT h181 h
        refine cskip ?_
        refine xn ?_
        refine cblock ?_
        refine cseq ?_
        refine cdraw (by kernel_rfl) rfl fun w9 hh_ ho_ ht_ hu_=>?_
        replace hS:=hS.drew hh_ ho_ ht_ hu_
        refine sf_start ?_
        refine sf_pu (i:=0) [0,2,3,4,12,13] (fun _ _ _ _ _ h=>h) rfl rfl rfl (u_move (et d5)) (q20 p5) ?_
        refine sf_pu (i:=1) [1,2,3,4,12,13] (fun _ _ _ _ _ h=>h) rfl rfl rfl (u_move (et d1)) (q20 p6) ?_
        replace h:=bI h; obtain ⟨x182,g183,h⟩:=h
        obtain ⟨b184,o185,cs186,e187,f188,m189⟩:=SlR.elem (m21.up (le37.t le178)) g183
        obtain ⟨b190,rfl,m191⟩:=m189
        refine sf_pu (i:=2) [2,3,4,12,13] (fun _ _ _ _ _ h=>h) rfl rfl rfl (u_iax Tryd.underlying112 ti116 (et (k20 d5)) (et (k20 d6)) e187) (q20 p7) ?_
        refine sf_pu (i:=3) [3,4,12,13] (fun _ _ _ _ _ h=>h) rfl rfl rfl (u_fa fa116_0 (et (k20 d7)) rfl) (q20 p8) ?_
        refine sf_rd (i:=4) [4,12,13] (fun _ _ _ _ _ h=>h) rfl rfl rfl (u_load ti114 (et (k20 d8)) ((f188 _ hS.a).one d0)) (q20 p9) ?_
        refine sf_pu (i:=5) [5,6,7,8,9,10,11,12,13] (fun _ _ _ _ _ h=>h) rfl rfl rfl (u_move (et d0)) (q30 p0) ?_
        refine sf_pu (i:=6) [6,7,8,9,10,11,12,13] (fun _ _ _ _ _ h=>h) rfl rfl rfl (u_nilck (et (k30 d0))) (q30 p1) ?_
        refine sf_pu (i:=7) [7,8,9,10,11,12,13] (fun _ _ _ _ _ h=>h) rfl rfl rfl (u_fa fa49_0 (et (k30 d1)) rfl) (q30 p2) ?_
        refine sf_rd (i:=8) [8,9,10,11,12,13] (fun _ _ _ _ _ h=>h) rfl rfl rfl (u_load ti42 (et (k30 d2)) ((hS.blk d0).cell d0)) (q30 p3) ?_
        replace h:=bI h; obtain ⟨x192,g193,h⟩:=h
        obtain ⟨b194,o195,cs196,e197,f198,m199⟩:=SlR.elem m179 g193
        obtain rfl:=m199
        refine sf_pu (i:=9) [9,10,11,12,13] (fun _ _ _ _ _ h=>h) rfl rfl rfl (u_iax Tryd.underlying42 ti59 (et (k30 d3)) ec e197) (q30 p4) ?_
        refine sf_pu (i:=10) [10,11,12,13] (fun _ _ _ _ _ h=>h) rfl rfl rfl (u_fa fa59_1 (et (k30 d4)) rfl) (q30 p5) ?_
        refine sf_rd (i:=11) [11,12,13] (fun _ _ _ _ _ h=>h) rfl rfl rfl (u_load ti9 (et (k30 d5)) ((f198 _ hS.a).one d1)) (q30 p6) ?_
        obtain ⟨es200,c201,hb202,hq203⟩:=m191
        refine sf1 rfl rfl rfl rfl (wn0 rfl) (s_mget1 (κ:=List UInt8) (k:=x192.Text) (β:=Int) (zx:=0) Tryd.underlying114 Tryd.underlying9 (et (k20 d9)) (et (k30 d6)) zv3 rfl (hb202 _ hS.a) hq203 ?_); rintro _ rfl; refine pu (dt (q30 p7)) ?_
        refine ⟨Mons.z,?_⟩
        refine sf_pu (i:=13) [13] (fun _ _ _ _ _ h=>h) rfl rfl rfl (u_assign (et (k30 d7))) p7 ?_
        refine sf_nil ?_
        refine xn ?_
        refine cseq ?_
        refine cseq ?_
        refine creg ?_
        refine wl (s_move (et d7) (dt (q30 p8)) ?_)
        refine wl (s_eqi (et (k30 d8)) ec (dt (q30 p9)) ?_)
        refine wnil ?_
        refine xn ?_
        refine cifd (et (k30 d9)) (fun h206=>?_) (fun h206=>?_)
        · replace h:=iT h206 h
          refine cexit ?_
          refine (fun h=>xe (bm rfl (xe (bh h)))) ?_
          refine xl ?_
          exact ⟨_,_,rfl,(aK7 (aO1 (aK10 (aK1 (aO20 (aO20 (aO2 aZ))))))),_,l114,a112,c113,i116,i117,i118,i119,s120,l123,a121,c122,rfl,h,le178,hS,m179,m180⟩
        · replace h:=iF h206 h
          refine cskip ?_
          refine xn ?_
          refine cseq ?_
          refine creg ?_
          refine wl (s_move (et d0) (dt (q40 p0)) ?_)
          refine wl (s_move (et d0) (dt (q40 p1)) ?_)
          refine wl (s_nilck (et (k40 d1)) (dt (q40 p2)) ?_)
          refine wl (s_fa fa49_0 (et (k40 d2)) rfl (dt (q40 p3)) ?_)
          refine wl (s_load ti42 (et (k40 d3)) ((hS.blk d0).cell d0) (dt (q40 p4)) ?_)
          replace h:=bI h; obtain ⟨l207,g208,h⟩:=h
          obtain ⟨a209,c210,e211,m212⟩:=Sl.slc (i:=some 1) (j:=none) m179 g208
          refine wl (s_slc Tryd.underlying42 ti59 (et (k40 d4)) (.s ec) .n e211 (dt (q40 p5)) ?_)
          refine wl (s_nilck (et (k40 d0)) (dt (q40 p6)) ?_)
          refine wl (s_fa fa49_0 (et (k40 d6)) rfl (dt (q40 p7)) ?_)
          refine wl (s_store1 ti42 (et (k40 d7)) (et (k40 d5)) rfl hS d0 p0 rfl p0 dn ?_)
          clear hS; intro w10 hS
          refine wnil ?_
          refine xn ?_
          refine cseq ?_
          refine ccutE (rg 48 8) (by decide) (fun m w=>∃ (μx:M) (l215:List TToken) (a213:Option Addr) (c214:Nat) (i217:Int) (i218:Int) (l221:List TExpr) (a219:Option Addr) (c220:Nat),m=(yK20 (yK20 (yK8 (yO8 48 []))))∧p_level_j2 p_2 r16 x182 x192 (p_level_l1 self p_2 r16 n_1) l215 i217 i218 l221=some r∧Le μ4 μx∧Sq μx w0 w (.blk b1 49 [.slice a213 l215.length c214,.int .i64 i217,.int .i64 i218]::.blk b14 39 [.int .i64 0,.int .i64 0,S [],.slice none 0 0]::.blk b44 39 [.int .i64 ((mget x182.signs x192.Text).getD 0),.int .i64 0,S [],.slice a219 l221.length c220]::rsF)∧Sl μx a213 c214 l215∧Sl μx a219 c220 l221) (by rintro _ _ ⟨_,_,_,_,_,_,_,_,_,rfl,_⟩; rfl) ?_ ?_
          · refine cdraw (by kernel_rfl) rfl fun w11 hh_ ho_ ht_ hu_=>?_
            replace hS:=hS.drew hh_ ho_ ht_ hu_
            refine sf_start ?_
            refine sf_pu (i:=0) [0,7,8] (fun _ _ _ _ _ h=>h) rfl rfl rfl (u_move (et d7)) (q40 p8) ?_
            refine sf_rd (i:=1) [1,6,7,8] (fun _ _ _ _ _ h=>h) rfl rfl rfl (u_loads ti39 (et d6) (hS.blk d2).cells rfl) (q40 p9) ?_
            refine sf_pu (i:=2) [2,5,6,7,8] (fun _ _ _ _ _ h=>h) rfl rfl rfl (u_move (et d0)) (q50 p0) ?_
            refine sf_pu (i:=3) [3,4,5,6,7,8] (fun _ _ _ _ _ h=>h) rfl rfl rfl (u_move (et d1)) (q50 p1) ?_
            replace h:=bI h; obtain ⟨i231,g232,h⟩:=h
            refine sf_pu (i:=4) [4,5,6,7,8] (fun _ _ _ _ _ h=>h) rfl rfl rfl (u_addc (et (k50 d1)) ec g232) (q50 p2) ?_
            rcases bTe h with ⟨e_,g234,rfl⟩ | ⟨r233,g234,h⟩
            · refine sf1 rfl rfl rfl rfl (wn0 rfl) (s_callte isfn58 ef (e1 (et (k50 d0)) (e1 (et (k50 d2)) e0)) (IH.p_level (hg.t (le18.t (le37.t le178))) m212 g234 hS) ?_)
              rintro w_ ⟨μ_,v0_,v1_,i_,le_,hS⟩
              replace hS:=Sep.dropL (l:=[_,_]) hS
              exact thN (P:=Tryd.prog) (fn:=Tryd.f58) ⟨_,_,_,_,((le18.t (le37.t le178)).t le_),hS⟩
            refine sf1 rfl rfl rfl rfl (wn0 rfl) (s_callv isfn58 ef (e1 (et (k50 d0)) (e1 (et (k50 d2)) e0)) ((IH.p_level (hg.t (le18.t (le37.t le178))) m212 g234 hS).ok) ?_)
            rintro _ w12 ⟨μ5,a236,c237,a239,c240,rfl,le235,hS,m238,m241⟩
            refine pu (dt (q50 p3)) ?_
            refine ⟨(Mons.s (u_loads ti39 (et d6) (hS.blk d2).cells rfl) Mons.z),?_⟩
            refine sf1 rfl rfl rfl rfl (wn0 rfl) (s_bslA Tryd.underlying37 ti39 (by decide) (.s (et (k40 d9)) rfl rfl (.s (et (k50 d3)) rfl rfl .z)) rfl hS ?_); clear hS; intro b242 w13 hb243 hS; refine pu (dt (q50 p4)) ?_
            refine ⟨Mons.z,?_⟩
            refine sf_pu (i:=7) [7,8] (fun _ _ _ _ _ h=>h) rfl rfl rfl (u_build ti39 pl39 (Fl.o rfl (et (k40 d8)) rfl rfl p0 (Fl.o rfl (et (k50 d4)) rfl rfl p3 Fl.z))) (q50 p5) ?_
            refine sf1 rfl rfl rfl rfl (wn0 rfl) (s_storeA ti39 (et d6) (et (k50 d5)) rfl rfl hS d3 rfl p3 dn ?_)
            clear hS; intro w14 hS
            refine ⟨Mons.z,?_⟩
            refine sf_nil ?_
            refine xl ?_
            obtain ⟨μ6,le245,m244,hS⟩:=Sep.frzBlk (l:=([(TExpr.mk i118 i119 s120 l123),r233.1]:List TExpr)) hS (Rw.cons (α:=TExpr) (cs:=[.int .i64 i118,.int .i64 i119,S s120,.slice a121 l123.length c122]) (TExpr.i ⟨a121,c122,rfl,(m180.up le235)⟩) (Rw.cons (α:=TExpr) (cs:=[.int .i64 r233.1.Kind,.int .i64 r233.1.N,S r233.1.Name,.slice a236 r233.1.Kids.length c237]) (TExpr.i ⟨a236,c237,rfl,m238⟩) Rw.nil)) (Nat.le_of_ble_eq_true rfl)
            exact ⟨_,_,rfl,(aK20 (aK20 (aK8 (aO8 aZ)))),_,r233.2.1,a239,c240,r233.2.2.1,r233.2.2.2,[(TExpr.mk i118 i119 s120 l123),r233.1],(some ⟨b242,0,none⟩),2,rfl,h,(le235.t le245),hS,(m241.up le245),m244⟩
          · rintro _ t w15 ⟨μ7,l215,a213,c214,i217,i218,l221,a219,c220,rfl,h,le246,hS,m247,m248⟩
            unfold p_level_j2 at h
            refine nrm (mK20 (mK20 (mK8 (mO8 mz)))) ?_
            refine xn ?_
            refine cseq ?_
            refine creg ?_
            refine wl (s_move (et d5) (dt (q50 p6)) ?_)
            refine wl (s_move (et d1) (dt (q50 p7)) ?_)
            replace h:=bI h; obtain ⟨x249,g250,h⟩:=h
            obtain ⟨b251,o252,cs253,e254,f255,m256⟩:=SlR.elem (m21.up (le37.t (le178.t le246))) g250
            obtain ⟨b257,rfl,m258⟩:=m256
            refine wl (s_iax Tryd.underlying112 ti116 (et (k50 d6)) (et (k50 d7)) e254 (dt (q50 p8)) ?_)
            refine wl (s_fa fa116_1 (et (k50 d8)) rfl (dt (q50 p9)) ?_)
            refine wl (s_load ti4 (et (k50 d9)) ((f255 _ hS.a).one d1) (dt (q60 p0)) ?_)
            refine wnil ?_
            refine xn ?_
            refine cifb (et (k60 d0)) (fun h259=>?_) (fun h259=>?_)
            · replace h:=iT h259 h
              refine cexit ?_
              refine (fun h=>bm rfl (xe (bh h))) ?_
              refine xl ?_
              exact ⟨_,_,rfl,(aK7 (aO1 (aK10 (aK1 (aO20 (aO20 (aO2 aZ))))))),_,l215,a213,c214,i217,i218,((mget x182.signs x192.Text).getD 0),0,[],l221,a219,c220,rfl,h,(le178.t le246),hS,m247,m248⟩
            · replace h:=iF h259 h
              refine cskip ?_
              refine (fun h=>bn (xl h)) ?_
              exact ⟨n_1,_,_,rfl,(aK7 (aO1 (aK10 (aK1 (aO20 (aO20 (aO2 aZ))))))),⟨_,l215,a213,c214,i217,i218,((mget x182.signs x192.Text).getD 0),0,[],l221,a219,c220,rfl,h,(le178.t le246),hS,m247,m248⟩,Nat.lt_succ_self _⟩
      · replace h:=iF h181 h
        refine cexit ?_
        refine (fun h=>xe (xe (bh h))) ?_
        refine xl ?_
        exact ⟨_,_,rfl,(aK7 (aO1 (aK10 (aK1 (aO20 (aO20 (aO2 aZ))))))),_,l114,a112,c113,i116,i117,i118,i119,s120,l123,a121,c122,rfl,h,le178,hS,m179,m180⟩
    · rintro _ t w16 ⟨μ8,l48,a46,c47,i50,i51,i52,i53,s54,l57,a55,c56,rfl,h,le260,hS,m261,m262⟩
      unfold p_level_j1 at h
      refine nrm (mK7 (mO1 (mK10 (mK1 (mO20 (mO20 (mO2 mz))))))) ?_
      refine xn ?_
      refine cseq ?_
      refine creg ?_
      refine wl (s_loads ti39 (et d6) (hS.blk d2).cells rfl (dt (q60 p1)) ?_)
      refine wl (s_storeA ti39 (et d4) (et (k60 d1)) rfl rfl hS d1 rfl p1 dn ?_)
      clear hS; intro w17 hS
      refine wnil ?_
      refine xn ?_
      refine cret ?_
      obtain rfl:=oI h
      refine okT ?_
      refine retN rfl (RVs.s (.a d4 ti39 (hS.blk d1).cells rfl) RVs.z) ?_
      replace hS:=hS.drop (Rm.s Rm.z)
      replace hS:=hS.drop (Rm.s Rm.z)
      exact ⟨_,a55,c56,a46,c47,rfl,(le18.t (le37.t le260)),hS,m262,m261⟩
theorem p_unary_w {self:ParE} (IH:ParESound self) {μ0:M} {w0 w:World} {rsF:List Res} (hg:Le Gm μ0) {b1:Nat} {left_2:List TToken} {a3:Option Addr} {c4:Nat} {end_6:Int} {deep_7:Int} {r:Except TFault (TExpr×List TToken×Int×Int)} (m5:Sl μ0 a3 c4 left_2) (h:p_unary self left_2 end_6 deep_7=some r) (hS:Sq μ0 w0 w (.blk b1 49 [.slice a3 left_2.length c4,.int .i64 end_6,.int .i64 deep_7]::rsF)):CallsT Tryd.prog 63 [.pointer (some ⟨b1,0,none⟩)] w Voops r (fun x v w'=>∃ (μ':M) (a8:Option Addr) (c9:Nat) (a11:Option Addr) (c12:Nat),v=.agg ⟨[.int .i64 x.1.Kind,.int .i64 x.1.N,S x.1.Name,.slice a8 x.1.Kids.length c9]⟩∧Le μ0 μ'∧Sq μ' w0 w' (.blk b1 49 [.slice a11 x.2.1.length c12,.int .i64 x.2.2.1,.int .i64 x.2.2.2]::rsF)∧Sl μ' a8 c9 x.1.Kids∧Sl μ' a11 c12 x.2.1) (EP μ0 w0 b1 49 rsF):=by
  unfold p_unary at h
  refine enterFT Tryd.func63 rfl (frm:=[_,_,_,_,_,_,_,_,_,_,_,_,_,_,_,_,_,_,_,_,_,_,_,_,_]) rfl ?_
  refine cseq ?_
  refine creg ?_
  refine wl (s_alloc ti39 hS ?_); clear hS; intro b14 w1 hb15 hS; refine pu (dt p2) ?_
  refine wnil ?_
  refine xn ?_
  refine cseq ?_
  refine cseq ?_
  refine creg ?_
  refine wl (s_mkmap hS ?_); clear hS; intro b16 w2 hb17 hS; refine pu (dt p5) ?_
  refine wl (s_minsM (κ:=List UInt8) (β:=Int) (kk:=[45]) (xx:=4) Tryd.underlying114 Tryd.underlying9 (et d5) ec ec rfl hS d0 (Mq.nil (κ:=List UInt8) (β:=Int) (μ:=μ0) (c:=0)) dn ?_); clear hS; intro es18 c19 w3 rs_ m20 hp_ hS; cases (show _=rs_ from hp_)
  replace hS:=Sep.reput hS p0
  refine wl (s_minsM (κ:=List UInt8) (β:=Int) (kk:=[110,111,116]) (xx:=5) Tryd.underlying114 Tryd.underlying9 (et d5) ec ec rfl hS d0 m20 dn ?_); clear hS; intro es21 c22 w4 rs_ m23 hp_ hS; cases (show _=rs_ from hp_)
  replace hS:=Sep.reput hS p0
  refine wl (s_move (et d5) (dt p6) ?_)
  obtain ⟨n26,n27,e28,h29,h30⟩:=Mq.two (k0:=[45]) (x0:=4) (k1:=[110,111,116]) (x1:=5) m23; subst e28
  refine wl (s_rangem Tryd.underlying114 (et d6) hS d0 ?_); clear hS; intro b24 w5 hb25 hS; refine pu (dt p7) ?_
  refine wnil ?_
  refine xn ?_
  refine cblock ?_
  refine cunroll 3 (crnd ?_)
  refine cseq ?_
  refine creg ?_
  refine wl (s_next0 (et d7) hS d0 d1 h29 h30 ?_ ?_)
  · clear hS; intro w6 rs_ hp_ hS; cases (show _=rs_ from hp_)
    replace hS:=Sep.reput hS p0; refine pu (dt p8) ?_
    refine wl (s_extr (et d8) d0 (dt p9) ?_)
    refine wnil ?_
    refine xn ?_
    refine cseq ?_
    refine cift (et d9) ?_
    refine cskip ?_
    refine xn ?_
    refine cblock ?_
    refine cseq ?_
    refine creg ?_
    refine wl (s_entry (e:=⟨S [45],.int .i64 4,n26⟩) (et d7) hS d0 d1 h29 rfl (.inl rfl) (dt (q10 p0)) ?_)
    refine wl (s_extr (et (k10 d0)) d0 (dt (q10 p1)) ?_)
    refine wl (s_extr (et (k10 d0)) d1 (dt (q10 p2)) ?_)
    refine wl (s_assign (et (k10 d1)) (dt p3) ?_)
    refine wl (s_assign (et (k10 d2)) (dt p4) ?_)
    refine wnil ?_
    refine xn ?_
    refine cseq ?_
    refine creg ?_
    refine wl (s_move (et d0) (dt (q10 p3)) ?_)
    refine wl (s_move (et d3) (dt (q10 p4)) ?_)
    replace h:=bI h; obtain ⟨r31,g32,h⟩:=h
    replace hS:=hS.bg (Bg.s (Bg.s (Bg.s Bg.z)))
    refine wl (s_callv isfn21 ef (e1 (et (k10 d3)) (e1 (et (k10 d4)) e0)) (p_is_w hg m5 g32 hS) ?_)
    rintro _ w7 ⟨μ1,a34,c35,rfl,le33,hS,m36⟩
    refine pu (dt (q10 p5)) ?_
    refine wnil ?_
    refine xn ?_
    refine cifb (et (k10 d5)) (fun h37=>?_) (fun h37=>?_)
    · replace h:=iT h37 h
      refine cseq ?_
      refine creg ?_
      refine wl (s_move (et d0) (dt (q10 p6)) ?_)
      rcases bTe h with ⟨e_,g39,rfl⟩ | ⟨r38,g39,h⟩
      · refine wl (s_callte isfn36 ef (e1 (et (k10 d6)) e0) (p_into_w (hg.t le33) m36 g39 hS) ?_)
        rintro w_ ⟨μ_,v0_,v1_,i_,le_,hS⟩
        replace hS:=Sep.dropL (l:=[_,_,_]) hS
        exact thND (P:=Tryd.prog) (fn:=Tryd.f63) ⟨_,_,_,_,(le33.t le_),hS⟩
      refine wl (s_callv isfn36 ef (e1 (et (k10 d6)) e0) ((p_into_w (hg.t le33) m36 g39 hS).ok) ?_)
      rintro _ w8 ⟨μ2,b41,a42,c43,rfl,le40,hS,m44⟩
      refine pu (dt (q10 p7)) ?_
      refine wl (s_defer (et (k10 d7)) e0 dn ?_)
      refine wnil ?_
      refine xn ?_
      refine cseq ?_
      refine creg ?_
      refine wl (s_move (et d4) (dt (q10 p8)) ?_)
      refine wl (s_move (et d0) (dt (q10 p9)) ?_)
      replace hS:=hS.bg (Bg.s Bg.z)
      rcases bTe h with ⟨e_,g46,rfl⟩ | ⟨r45,g46,h⟩
      · refine wl (s_callte isfn63 ef (e1 (et (k10 d9)) e0) (IH.p_unary (hg.t (le33.t le40)) m44 g46 hS) ?_)
        rintro w_ ⟨μ_,v0_,v1_,i_,le_,hS⟩
        replace hS:=hS.bg (Bg.s Bg.z)
        refine thD isfn49 (p_outE hS) ?_; rintro _ w_ ⟨j_,hS⟩
        replace hS:=hS.drop Rm.z
        replace hS:=Sep.dropL (l:=[_,_,_]) hS
        exact thND (P:=Tryd.prog) (fn:=Tryd.f63) ⟨_,_,_,_,((le33.t le40).t le_),hS⟩
      refine wl (s_callv isfn63 ef (e1 (et (k10 d9)) e0) ((IH.p_unary (hg.t (le33.t le40)) m44 g46 hS).ok) ?_)
      rintro _ w9 ⟨μ3,a48,c49,a51,c52,rfl,le47,hS,m50,m53⟩
      refine pu (dt (q20 p0)) ?_
      refine wl (s_bsl1 Tryd.underlying37 ti39 rfl (et (k20 d0)) rfl hS ?_); clear hS; intro b54 w10 hb55 hS; refine pu (dt (q20 p1)) ?_
      refine wl (s_build ti39 pl39 (Fl.o rfl (et (k10 d8)) rfl rfl p0 (Fl.o rfl (et (k20 d1)) rfl rfl p3 Fl.z)) (dt (q20 p2)) ?_)
      refine wl (s_storeA ti39 (et d2) (et (k20 d2)) rfl rfl hS d5 rfl p5 dn ?_)
      clear hS; intro w11 hS
      refine wnil ?_
      refine xn ?_
      refine cret ?_
      refine (fun h=>br (xr (br (xr h)))) ?_
      replace h:=bI h; obtain ⟨r56,g57,h⟩:=h
      replace hS:=hS.bg (Bg.s Bg.z)
      replace hS:=hS.bg (Bg.s (Bg.s Bg.z))
      refine retDT isfn49 (p_out_w (hg.t (le33.t (le40.t le47))) m53 g57 hS) ?_
      rintro _ w12 ⟨μ4,a59,c60,rfl,le58,hS,m61⟩
      replace hS:=hS.bg (Bg.s (Bg.s Bg.z))
      obtain ⟨μ5,le63,m62,hS⟩:=Sep.frzBlk (l:=([r45.1]:List TExpr)) hS (Rw.one (α:=TExpr) (TExpr.i ⟨a48,c49,rfl,(m50.up le58)⟩)) (Nat.le_of_ble_eq_true rfl)
      obtain rfl:=oI h
      refine okTD ?_
      refine retDN rfl (RVs.s (.a d2 ti39 (hS.blk d4).cells rfl) RVs.z) ?_
      replace hS:=hS.drop Rm.z
      replace hS:=hS.drop (Rm.s Rm.z)
      replace hS:=hS.drop (Rm.s Rm.z)
      replace hS:=hS.drop (Rm.s Rm.z)
      exact ⟨_,(some ⟨b54,0,none⟩),1,a59,c60,rfl,(le33.t (le40.t (le47.t (le58.t le63)))),hS,m62,(m61.up le63)⟩
    · replace h:=iF h37 h
      refine cskip ?_
      refine (fun h=>bn (xl h)) (xrnd (crnd ?_))
      refine cseq ?_
      refine creg ?_
      refine wl (s_next1 (et d7) hS d1 d2 h29 h30 ?_)
      clear hS; intro w13 rs_ hp_ hS; cases (show _=rs_ from hp_)
      replace hS:=Sep.reput hS p1; refine pu (dt p8) ?_
      refine wl (s_extr (et d8) d0 (dt p9) ?_)
      refine wnil ?_
      refine xn ?_
      refine cseq ?_
      refine cift (et d9) ?_
      refine cskip ?_
      refine xn ?_
      refine cblock ?_
      refine cseq ?_
      refine creg ?_
      refine wl (s_entry (e:=⟨S [110,111,116],.int .i64 5,n27⟩) (et d7) hS d1 d2 h29 rfl (.inr rfl) (dt (q10 p0)) ?_)
      refine wl (s_extr (et (k10 d0)) d0 (dt (q10 p1)) ?_)
      refine wl (s_extr (et (k10 d0)) d1 (dt (q10 p2)) ?_)
      refine wl (s_assign (et (k10 d1)) (dt p3) ?_)
      refine wl (s_assign (et (k10 d2)) (dt p4) ?_)
      refine wnil ?_
      refine xn ?_
      refine cseq ?_
      refine creg ?_
      refine wl (s_move (et d0) (dt (q10 p3)) ?_)
      refine wl (s_move (et d3) (dt (q10 p4)) ?_)
      replace h:=bI h; obtain ⟨r64,g65,h⟩:=h
      refine wl (s_callv isfn21 ef (e1 (et (k10 d3)) (e1 (et (k10 d4)) e0)) (p_is_w (hg.t le33) m36 g65 hS) ?_)
      rintro _ w14 ⟨μ6,a67,c68,rfl,le66,hS,m69⟩
      refine pu (dt (q10 p5)) ?_
      refine wnil ?_
      refine xn ?_
      refine cifb (et (k10 d5)) (fun h70=>?_) (fun h70=>?_)
      · replace h:=iT h70 h
        refine cseq ?_
        refine creg ?_
        refine wl (s_move (et d0) (dt (q10 p6)) ?_)
        rcases bTe h with ⟨e_,g72,rfl⟩ | ⟨r71,g72,h⟩
        · refine wl (s_callte isfn36 ef (e1 (et (k10 d6)) e0) (p_into_w (hg.t (le33.t le66)) m69 g72 hS) ?_)
          rintro w_ ⟨μ_,v0_,v1_,i_,le_,hS⟩
          replace hS:=Sep.dropL (l:=[_,_,_]) hS
          exact thND (P:=Tryd.prog) (fn:=Tryd.f63) ⟨_,_,_,_,((le33.t le66).t le_),hS⟩
        refine wl (s_callv isfn36 ef (e1 (et (k10 d6)) e0) ((p_into_w (hg.t (le33.t le66)) m69 g72 hS).ok) ?_)
        rintro _ w15 ⟨μ7,b74,a75,c76,rfl,le73,hS,m77⟩
        refine pu (dt (q10 p7)) ?_
        refine wl (s_defer (et (k10 d7)) e0 dn ?_)
        refine wnil ?_
        refine xn ?_
        refine cseq ?_
        refine creg ?_
        refine wl (s_move (et d4) (dt (q10 p8)) ?_)
        refine wl (s_move (et d0) (dt (q10 p9)) ?_)
        replace hS:=hS.bg (Bg.s Bg.z)
        rcases bTe h with ⟨e_,g79,rfl⟩ | ⟨r78,g79,h⟩
        · refine wl (s_callte isfn63 ef (e1 (et (k10 d9)) e0) (IH.p_unary (hg.t (le33.t (le66.t le73))) m77 g79 hS) ?_)
          rintro w_ ⟨μ_,v0_,v1_,i_,le_,hS⟩
          replace hS:=hS.bg (Bg.s Bg.z)
          refine thD isfn49 (p_outE hS) ?_; rintro _ w_ ⟨j_,hS⟩
          replace hS:=hS.drop Rm.z
          replace hS:=Sep.dropL (l:=[_,_,_]) hS
          exact thND (P:=Tryd.prog) (fn:=Tryd.f63) ⟨_,_,_,_,((le33.t (le66.t le73)).t le_),hS⟩
        refine wl (s_callv isfn63 ef (e1 (et (k10 d9)) e0) ((IH.p_unary (hg.t (le33.t (le66.t le73))) m77 g79 hS).ok) ?_)
        rintro _ w16 ⟨μ8,a81,c82,a84,c85,rfl,le80,hS,m83,m86⟩
        refine pu (dt (q20 p0)) ?_
        refine wl (s_bsl1 Tryd.underlying37 ti39 rfl (et (k20 d0)) rfl hS ?_); clear hS; intro b87 w17 hb88 hS; refine pu (dt (q20 p1)) ?_
        refine wl (s_build ti39 pl39 (Fl.o rfl (et (k10 d8)) rfl rfl p0 (Fl.o rfl (et (k20 d1)) rfl rfl p3 Fl.z)) (dt (q20 p2)) ?_)
        refine wl (s_storeA ti39 (et d2) (et (k20 d2)) rfl rfl hS d5 rfl p5 dn ?_)
        clear hS; intro w18 hS
        refine wnil ?_
        refine xn ?_
        refine cret ?_
        refine (fun h=>br (xr (br (xr h)))) ?_
        replace h:=bI h; obtain ⟨r89,g90,h⟩:=h
        replace hS:=hS.bg (Bg.s Bg.z)
        replace hS:=hS.bg (Bg.s (Bg.s Bg.z))
        refine retDT isfn49 (p_out_w (hg.t (le33.t (le66.t (le73.t le80)))) m86 g90 hS) ?_
        rintro _ w19 ⟨μ9,a92,c93,rfl,le91,hS,m94⟩
        replace hS:=hS.bg (Bg.s (Bg.s Bg.z))
        obtain ⟨μ10,le96,m95,hS⟩:=Sep.frzBlk (l:=([r78.1]:List TExpr)) hS (Rw.one (α:=TExpr) (TExpr.i ⟨a81,c82,rfl,(m83.up le91)⟩)) (Nat.le_of_ble_eq_true rfl)
        obtain rfl:=oI h
        refine okTD ?_
        refine retDN rfl (RVs.s (.a d2 ti39 (hS.blk d4).cells rfl) RVs.z) ?_
        replace hS:=hS.drop Rm.z
        replace hS:=hS.drop (Rm.s Rm.z)
        replace hS:=hS.drop (Rm.s Rm.z)
        replace hS:=hS.drop (Rm.s Rm.z)
        exact ⟨_,(some ⟨b87,0,none⟩),1,a92,c93,rfl,(le33.t (le66.t (le73.t (le80.t (le91.t le96))))),hS,m95,(m94.up le96)⟩
      · replace h:=iF h70 h
        refine cskip ?_
        refine (fun h=>bn (xl h)) (xrnd (crnd ?_))
        refine cseq ?_
        refine creg ?_
        refine wl (s_next2 (et d7) hS d1 d2 h29 h30 (.inl ⟨rfl,rfl⟩) (dt p8) ?_)
        refine wl (s_extr (et d8) d0 (dt p9) ?_)
        refine wnil ?_
        refine xn ?_
        refine cseq ?_
        refine ciff (et d9) ?_
        refine cexit ?_
        refine (fun h=>xe (xe (bh h))) ?_
        refine xn ?_
        refine cseq ?_
        refine creg ?_
        refine wl (s_move (et d0) (dt (q20 p3)) ?_)
        rcases bTe h with ⟨e_,g98,rfl⟩ | ⟨r97,g98,h⟩
        · refine wl (s_callte isfn70 ef (e1 (et (k20 d3)) e0) (IH.p_primary (hg.t (le33.t le66)) m69 g98 hS) ?_)
          rintro w_ ⟨μ_,v0_,v1_,i_,le_,hS⟩
          replace hS:=Sep.dropL (l:=[_,_,_]) hS
          exact thND (P:=Tryd.prog) (fn:=Tryd.f63) ⟨_,_,_,_,((le33.t le66).t le_),hS⟩
        refine wl (s_callv isfn70 ef (e1 (et (k20 d3)) e0) ((IH.p_primary (hg.t (le33.t le66)) m69 g98 hS).ok) ?_)
        rintro _ w20 ⟨μ11,a100,c101,a103,c104,rfl,le99,hS,m102,m105⟩
        refine pu (dt (q20 p4)) ?_
        refine wl (s_storeA ti39 (et d2) (et (k20 d4)) rfl rfl hS d3 rfl p3 dn ?_)
        clear hS; intro w21 hS
        refine wnil ?_
        refine xn ?_
        refine cret ?_
        obtain rfl:=oI h
        refine okTD ?_
        refine retDN rfl (RVs.s (.a d2 ti39 (hS.blk d3).cells rfl) RVs.z) ?_
        replace hS:=hS.drop (Rm.s Rm.z)
        replace hS:=hS.drop (Rm.s Rm.z)
        replace hS:=hS.drop (Rm.s Rm.z)
        exact ⟨_,a100,c101,a103,c104,rfl,(le33.t (le66.t le99)),hS,m102,m105⟩
  · clear hS; intro w22 rs_ hp_ hS; cases (show _=rs_ from hp_)
    replace hS:=Sep.reput hS p0; refine pu (dt p8) ?_
    replace h:=is_swap (by decide) h
    refine wl (s_extr (et d8) d0 (dt p9) ?_)
    refine wnil ?_
    refine xn ?_
    refine cseq ?_
    refine cift (et d9) ?_
    refine cskip ?_
    refine xn ?_
    refine cblock ?_
    refine cseq ?_
    refine creg ?_
    refine wl (s_entry (e:=⟨S [110,111,116],.int .i64 5,n27⟩) (et d7) hS d0 d1 h29 rfl (.inr rfl) (dt (q10 p0)) ?_)
    refine wl (s_extr (et (k10 d0)) d0 (dt (q10 p1)) ?_)
    refine wl (s_extr (et (k10 d0)) d1 (dt (q10 p2)) ?_)
    refine wl (s_assign (et (k10 d1)) (dt p3) ?_)
    refine wl (s_assign (et (k10 d2)) (dt p4) ?_)
    refine wnil ?_
    refine xn ?_
    refine cseq ?_
    refine creg ?_
    refine wl (s_move (et d0) (dt (q10 p3)) ?_)
    refine wl (s_move (et d3) (dt (q10 p4)) ?_)
    replace h:=bI h; obtain ⟨r106,g107,h⟩:=h
    replace hS:=hS.bg (Bg.s (Bg.s (Bg.s Bg.z)))
    refine wl (s_callv isfn21 ef (e1 (et (k10 d3)) (e1 (et (k10 d4)) e0)) (p_is_w hg m5 g107 hS) ?_)
    rintro _ w23 ⟨μ12,a109,c110,rfl,le108,hS,m111⟩
    refine pu (dt (q10 p5)) ?_
    refine wnil ?_
    refine xn ?_
    refine cifb (et (k10 d5)) (fun h112=>?_) (fun h112=>?_)
    · replace h:=iT h112 h
      refine cseq ?_
      refine creg ?_
      refine wl (s_move (et d0) (dt (q10 p6)) ?_)
      rcases bTe h with ⟨e_,g114,rfl⟩ | ⟨r113,g114,h⟩
      · refine wl (s_callte isfn36 ef (e1 (et (k10 d6)) e0) (p_into_w (hg.t le108) m111 g114 hS) ?_)
        rintro w_ ⟨μ_,v0_,v1_,i_,le_,hS⟩
        replace hS:=Sep.dropL (l:=[_,_,_]) hS
        exact thND (P:=Tryd.prog) (fn:=Tryd.f63) ⟨_,_,_,_,(le108.t le_),hS⟩
      refine wl (s_callv isfn36 ef (e1 (et (k10 d6)) e0) ((p_into_w (hg.t le108) m111 g114 hS).ok) ?_)
      rintro _ w24 ⟨μ13,b116,a117,c118,rfl,le115,hS,m119⟩
      refine pu (dt (q10 p7)) ?_
      refine wl (s_defer (et (k10 d7)) e0 dn ?_)
      refine wnil ?_
      refine xn ?_
      refine cseq ?_
      refine creg ?_
      refine wl (s_move (et d4) (dt (q10 p8)) ?_)
      refine wl (s_move (et d0) (dt (q10 p9)) ?_)
      replace hS:=hS.bg (Bg.s Bg.z)
      rcases bTe h with ⟨e_,g121,rfl⟩ | ⟨r120,g121,h⟩
      · refine wl (s_callte isfn63 ef (e1 (et (k10 d9)) e0) (IH.p_unary (hg.t (le108.t le115)) m119 g121 hS) ?_)
        rintro w_ ⟨μ_,v0_,v1_,i_,le_,hS⟩
        replace hS:=hS.bg (Bg.s Bg.z)
        refine thD isfn49 (p_outE hS) ?_; rintro _ w_ ⟨j_,hS⟩
        replace hS:=hS.drop Rm.z
        replace hS:=Sep.dropL (l:=[_,_,_]) hS
        exact thND (P:=Tryd.prog) (fn:=Tryd.f63) ⟨_,_,_,_,((le108.t le115).t le_),hS⟩
      refine wl (s_callv isfn63 ef (e1 (et (k10 d9)) e0) ((IH.p_unary (hg.t (le108.t le115)) m119 g121 hS).ok) ?_)
      rintro _ w25 ⟨μ14,a123,c124,a126,c127,rfl,le122,hS,m125,m128⟩
      refine pu (dt (q20 p0)) ?_
      refine wl (s_bsl1 Tryd.underlying37 ti39 rfl (et (k20 d0)) rfl hS ?_); clear hS; intro b129 w26 hb130 hS; refine pu (dt (q20 p1)) ?_
      refine wl (s_build ti39 pl39 (Fl.o rfl (et (k10 d8)) rfl rfl p0 (Fl.o rfl (et (k20 d1)) rfl rfl p3 Fl.z)) (dt (q20 p2)) ?_)
      refine wl (s_storeA ti39 (et d2) (et (k20 d2)) rfl rfl hS d5 rfl p5 dn ?_)
      clear hS; intro w27 hS
      refine wnil ?_
      refine xn ?_
      refine cret ?_
      refine (fun h=>br (xr (br (xr h)))) ?_
      replace h:=bI h; obtain ⟨r131,g132,h⟩:=h
      replace hS:=hS.bg (Bg.s Bg.z)
      replace hS:=hS.bg (Bg.s (Bg.s Bg.z))
      refine retDT isfn49 (p_out_w (hg.t (le108.t (le115.t le122))) m128 g132 hS) ?_
      rintro _ w28 ⟨μ15,a134,c135,rfl,le133,hS,m136⟩
      replace hS:=hS.bg (Bg.s (Bg.s Bg.z))
      obtain ⟨μ16,le138,m137,hS⟩:=Sep.frzBlk (l:=([r120.1]:List TExpr)) hS (Rw.one (α:=TExpr) (TExpr.i ⟨a123,c124,rfl,(m125.up le133)⟩)) (Nat.le_of_ble_eq_true rfl)
      obtain rfl:=oI h
      refine okTD ?_
      refine retDN rfl (RVs.s (.a d2 ti39 (hS.blk d4).cells rfl) RVs.z) ?_
      replace hS:=hS.drop Rm.z
      replace hS:=hS.drop (Rm.s Rm.z)
      replace hS:=hS.drop (Rm.s Rm.z)
      replace hS:=hS.drop (Rm.s Rm.z)
      exact ⟨_,(some ⟨b129,0,none⟩),1,a134,c135,rfl,(le108.t (le115.t (le122.t (le133.t le138)))),hS,m137,(m136.up le138)⟩
    · replace h:=iF h112 h
      refine cskip ?_
      refine (fun h=>bn (xl h)) (xrnd (crnd ?_))
      refine cseq ?_
      refine creg ?_
      refine wl (s_next1' (et d7) hS d1 d2 h29 h30 ?_)
      clear hS; intro w29 rs_ hp_ hS; cases (show _=rs_ from hp_)
      replace hS:=Sep.reput hS p1; refine pu (dt p8) ?_
      refine wl (s_extr (et d8) d0 (dt p9) ?_)
      refine wnil ?_
      refine xn ?_
      refine cseq ?_
      refine cift (et d9) ?_
      refine cskip ?_
      refine xn ?_
      refine cblock ?_
      refine cseq ?_
      refine creg ?_
      refine wl (s_entry (e:=⟨S [45],.int .i64 4,n26⟩) (et d7) hS d1 d2 h29 rfl (.inl rfl) (dt (q10 p0)) ?_)
      refine wl (s_extr (et (k10 d0)) d0 (dt (q10 p1)) ?_)
      refine wl (s_extr (et (k10 d0)) d1 (dt (q10 p2)) ?_)
      refine wl (s_assign (et (k10 d1)) (dt p3) ?_)
      refine wl (s_assign (et (k10 d2)) (dt p4) ?_)
      refine wnil ?_
      refine xn ?_
      refine cseq ?_
      refine creg ?_
      refine wl (s_move (et d0) (dt (q10 p3)) ?_)
      refine wl (s_move (et d3) (dt (q10 p4)) ?_)
      replace h:=bI h; obtain ⟨r139,g140,h⟩:=h
      refine wl (s_callv isfn21 ef (e1 (et (k10 d3)) (e1 (et (k10 d4)) e0)) (p_is_w (hg.t le108) m111 g140 hS) ?_)
      rintro _ w30 ⟨μ17,a142,c143,rfl,le141,hS,m144⟩
      refine pu (dt (q10 p5)) ?_
      refine wnil ?_
      refine xn ?_
      refine cifb (et (k10 d5)) (fun h145=>?_) (fun h145=>?_)
      · replace h:=iT h145 h
        refine cseq ?_
        refine creg ?_
        refine wl (s_move (et d0) (dt (q10 p6)) ?_)
        rcases bTe h with ⟨e_,g147,rfl⟩ | ⟨r146,g147,h⟩
        · refine wl (s_callte isfn36 ef (e1 (et (k10 d6)) e0) (p_into_w (hg.t (le108.t le141)) m144 g147 hS) ?_)
          rintro w_ ⟨μ_,v0_,v1_,i_,le_,hS⟩
          replace hS:=Sep.dropL (l:=[_,_,_]) hS
          exact thND (P:=Tryd.prog) (fn:=Tryd.f63) ⟨_,_,_,_,((le108.t le141).t le_),hS⟩
        refine wl (s_callv isfn36 ef (e1 (et (k10 d6)) e0) ((p_into_w (hg.t (le108.t le141)) m144 g147 hS).ok) ?_)
        rintro _ w31 ⟨μ18,b149,a150,c151,rfl,le148,hS,m152⟩
        refine pu (dt (q10 p7)) ?_
        refine wl (s_defer (et (k10 d7)) e0 dn ?_)
        refine wnil ?_
        refine xn ?_
        refine cseq ?_
        refine creg ?_
        refine wl (s_move (et d4) (dt (q10 p8)) ?_)
        refine wl (s_move (et d0) (dt (q10 p9)) ?_)
        replace hS:=hS.bg (Bg.s Bg.z)
        rcases bTe h with ⟨e_,g154,rfl⟩ | ⟨r153,g154,h⟩
        · refine wl (s_callte isfn63 ef (e1 (et (k10 d9)) e0) (IH.p_unary (hg.t (le108.t (le141.t le148))) m152 g154 hS) ?_)
          rintro w_ ⟨μ_,v0_,v1_,i_,le_,hS⟩
          replace hS:=hS.bg (Bg.s Bg.z)
          refine thD isfn49 (p_outE hS) ?_; rintro _ w_ ⟨j_,hS⟩
          replace hS:=hS.drop Rm.z
          replace hS:=Sep.dropL (l:=[_,_,_]) hS
          exact thND (P:=Tryd.prog) (fn:=Tryd.f63) ⟨_,_,_,_,((le108.t (le141.t le148)).t le_),hS⟩
        refine wl (s_callv isfn63 ef (e1 (et (k10 d9)) e0) ((IH.p_unary (hg.t (le108.t (le141.t le148))) m152 g154 hS).ok) ?_)
        rintro _ w32 ⟨μ19,a156,c157,a159,c160,rfl,le155,hS,m158,m161⟩
        refine pu (dt (q20 p0)) ?_
        refine wl (s_bsl1 Tryd.underlying37 ti39 rfl (et (k20 d0)) rfl hS ?_); clear hS; intro b162 w33 hb163 hS; refine pu (dt (q20 p1)) ?_
        refine wl (s_build ti39 pl39 (Fl.o rfl (et (k10 d8)) rfl rfl p0 (Fl.o rfl (et (k20 d1)) rfl rfl p3 Fl.z)) (dt (q20 p2)) ?_)
        refine wl (s_storeA ti39 (et d2) (et (k20 d2)) rfl rfl hS d5 rfl p5 dn ?_)
        clear hS; intro w34 hS
        refine wnil ?_
        refine xn ?_
        refine cret ?_
        refine (fun h=>br (xr (br (xr h)))) ?_
        replace h:=bI h; obtain ⟨r164,g165,h⟩:=h
        replace hS:=hS.bg (Bg.s Bg.z)
        replace hS:=hS.bg (Bg.s (Bg.s Bg.z))
        refine retDT isfn49 (p_out_w (hg.t (le108.t (le141.t (le148.t le155)))) m161 g165 hS) ?_
        rintro _ w35 ⟨μ20,a167,c168,rfl,le166,hS,m169⟩
        replace hS:=hS.bg (Bg.s (Bg.s Bg.z))
        obtain ⟨μ21,le171,m170,hS⟩:=Sep.frzBlk (l:=([r153.1]:List TExpr)) hS (Rw.one (α:=TExpr) (TExpr.i ⟨a156,c157,rfl,(m158.up le166)⟩)) (Nat.le_of_ble_eq_true rfl)
        obtain rfl:=oI h
        refine okTD ?_
        refine retDN rfl (RVs.s (.a d2 ti39 (hS.blk d4).cells rfl) RVs.z) ?_
        replace hS:=hS.drop Rm.z
        replace hS:=hS.drop (Rm.s Rm.z)
        replace hS:=hS.drop (Rm.s Rm.z)
        replace hS:=hS.drop (Rm.s Rm.z)
        exact ⟨_,(some ⟨b162,0,none⟩),1,a167,c168,rfl,(le108.t (le141.t (le148.t (le155.t (le166.t le171))))),hS,m170,(m169.up le171)⟩
      · replace h:=iF h145 h
        refine cskip ?_
        refine (fun h=>bn (xl h)) (xrnd (crnd ?_))
        refine cseq ?_
        refine creg ?_
        refine wl (s_next2 (et d7) hS d1 d2 h29 h30 (.inr ⟨rfl,rfl⟩) (dt p8) ?_)
        refine wl (s_extr (et d8) d0 (dt p9) ?_)
        refine wnil ?_
        refine xn ?_
        refine cseq ?_
        refine ciff (et d9) ?_
        refine cexit ?_
        refine (fun h=>xe (xe (bh h))) ?_
        refine xn ?_
        refine cseq ?_
        refine creg ?_
        refine wl (s_move (et d0) (dt (q20 p3)) ?_)
        rcases bTe h with ⟨e_,g173,rfl⟩ | ⟨r172,g173,h⟩
        · refine wl (s_callte isfn70 ef (e1 (et (k20 d3)) e0) (IH.p_primary (hg.t (le108.t le141)) m144 g173 hS) ?_)
          rintro w_ ⟨μ_,v0_,v1_,i_,le_,hS⟩
          replace hS:=Sep.dropL (l:=[_,_,_]) hS
          exact thND (P:=Tryd.prog) (fn:=Tryd.f63) ⟨_,_,_,_,((le108.t le141).t le_),hS⟩
        refine wl (s_callv isfn70 ef (e1 (et (k20 d3)) e0) ((IH.p_primary (hg.t (le108.t le141)) m144 g173 hS).ok) ?_)
        rintro _ w36 ⟨μ22,a175,c176,a178,c179,rfl,le174,hS,m177,m180⟩
        refine pu (dt (q20 p4)) ?_
        refine wl (s_storeA ti39 (et d2) (et (k20 d4)) rfl rfl hS d3 rfl p3 dn ?_)
        clear hS; intro w37 hS
        refine wnil ?_
        refine xn ?_
        refine cret ?_
        obtain rfl:=oI h
        refine okTD ?_
        refine retDN rfl (RVs.s (.a d2 ti39 (hS.blk d3).cells rfl) RVs.z) ?_
        replace hS:=hS.drop (Rm.s Rm.z)
        replace hS:=hS.drop (Rm.s Rm.z)
        replace hS:=hS.drop (Rm.s Rm.z)
        exact ⟨_,a175,c176,a178,c179,rfl,(le108.t (le141.t le174)),hS,m177,m180⟩
theorem p_primary_w {self:ParE} (IH:ParESound self) {fu:Nat} {μ0:M} {w0 w:World} {rsF:List Res} (hg:Le Gm μ0) {b1:Nat} {left_2:List TToken} {a3:Option Addr} {c4:Nat} {end_6:Int} {deep_7:Int} {r:Except TFault (TExpr×List TToken×Int×Int)} (m5:Sl μ0 a3 c4 left_2) (h:p_primary fu self left_2 end_6 deep_7=some r) (hS:Sq μ0 w0 w (.blk b1 49 [.slice a3 left_2.length c4,.int .i64 end_6,.int .i64 deep_7]::rsF)):CallsT Tryd.prog 70 [.pointer (some ⟨b1,0,none⟩)] w Voops r (fun x v w'=>∃ (μ':M) (a8:Option Addr) (c9:Nat) (a11:Option Addr) (c12:Nat),v=.agg ⟨[.int .i64 x.1.Kind,.int .i64 x.1.N,S x.1.Name,.slice a8 x.1.Kids.length c9]⟩∧Le μ0 μ'∧Sq μ' w0 w' (.blk b1 49 [.slice a11 x.2.1.length c12,.int .i64 x.2.2.1,.int .i64 x.2.2.2]::rsF)∧Sl μ' a8 c9 x.1.Kids∧Sl μ' a11 c12 x.2.1) (EP μ0 w0 b1 49 rsF):=by
  unfold p_primary at h
  refine enterT Tryd.func70 rfl (frm:=[_,_,_,_,_,_,_,_,_,_,_,_,_,_,_,_,_,_,_,_,_,_,_,_,_,_,_,_,_,_,_,_,_,_,_,_,_,_,_,_,_,_,_,_,_,_,_,_,_,_,_,_,_,_,_,_,_,_,_,_,_,_,_,_,_,_,_,_,_,_,_,_,_,_,_,_,_,_,_,_,_,_,_,_,_,_,_,_,_]) rfl ?_
  refine cseq ?_
  refine creg ?_
  refine wl (s_alloc ti39 hS ?_); clear hS; intro b14 w1 hb15 hS; refine pu (dt p2) ?_
  refine wnil ?_
  refine xn ?_
  refine cseq ?_
  refine cblock ?_
  refine cseq ?_
  refine ccutE (rg 7 16) (by decide) (fun m w=>∃ (μx:M) (b16:Bool),m=(yK6 (.i (.bool b16)::(yO10 7 (yO6 17 []))))∧p_primary_j1 fu self left_2 end_6 deep_7 b16=some r∧Le μ0 μx∧Sq μx w0 w (.blk b1 49 [.slice a3 left_2.length c4,.int .i64 end_6,.int .i64 deep_7]::.blk b14 39 [.int .i64 0,.int .i64 0,S [],.slice none 0 0]::rsF)) (by rintro _ _ ⟨_,_,rfl,_⟩; rfl) ?_ ?_
  · refine creg ?_
    refine wl (s_move (et d0) (dt p7) ?_)
    refine wl (s_nilck (et d7) (dt p8) ?_)
    refine wl (s_fa fa49_0 (et d8) rfl (dt p9) ?_)
    refine wl (s_load ti42 (et d9) ((hS.blk d1).cell d0) (dt (q10 p0)) ?_)
    refine wl (s_lensl Tryd.underlying42 (et (k10 d0)) (dt (q10 p1)) ?_)
    refine wl (s_gtr (et (k10 d1)) ec (dt (q10 p2)) ?_)
    refine wl (s_move (et (k10 d2)) (dt (q10 p3)) ?_)
    refine wspd (k10 d3) (q10 p3) (q10 p3) (fun h17=>?_) (fun h17=>?_)
    · replace h:=iT h17 h
      refine wy rfl (k10 d3) (s_move (et d0) (dt (q10 p4)) ?_)
      refine wy rfl (k10 d3) (s_nilck (et (k10 d4)) (dt (q10 p5)) ?_)
      refine wy rfl (k10 d3) (s_fa fa49_0 (et (k10 d5)) rfl (dt (q10 p6)) ?_)
      refine wy rfl (k10 d3) (s_load ti42 (et (k10 d6)) ((hS.blk d1).cell d0) (dt (q10 p7)) ?_)
      replace h:=bI h; obtain ⟨x18,g19,h⟩:=h
      obtain ⟨b20,o21,cs22,e23,f24,m25⟩:=SlR.elem m5 g19
      obtain rfl:=m25
      refine wy rfl (k10 d3) (s_iax Tryd.underlying42 ti59 (et (k10 d7)) ec e23 (dt (q10 p8)) ?_)
      refine wy rfl (k10 d3) (s_fa fa59_0 (et (k10 d8)) rfl (dt (q10 p9)) ?_)
      refine wy rfl (k10 d3) (s_load ti3 (et (k10 d9)) ((f24 _ hS.a).one d0) (dt (q20 p0)) ?_)
      refine wy rfl (k10 d3) (s_eqi (et (k20 d0)) ec (dt (q20 p1)) ?_)
      refine wl (s_pickt (et (k10 d3)) (et (k20 d1)) (dt (q20 p2)) ?_)
      refine wl (s_assign (et (k20 d2)) (dt p6) ?_)
      refine wnil ?_
      refine xl ?_
      replace hS:=hS.bg (Bg.s Bg.z)
      exact ⟨_,_,rfl,(aK6 (aI (aO10 (aO6 aZ)))),_,(decide (x18.Kind=2)),rfl,h,Le.r,hS⟩
    · replace h:=iF h17 h
      refine wn rfl (k10 d3) rfl (dt (q10 p4)) ?_
      refine wn rfl (k10 d3) rfl (dt (q10 p5)) ?_
      refine wn rfl (k10 d3) rfl (dt (q10 p6)) ?_
      refine wn rfl (k10 d3) rfl (dt (q10 p7)) ?_
      refine wn rfl (k10 d3) rfl (dt (q10 p8)) ?_
      refine wn rfl (k10 d3) rfl (dt (q10 p9)) ?_
      refine wn rfl (k10 d3) rfl (dt (q20 p0)) ?_
      refine wn rfl (k10 d3) rfl (dt (q20 p1)) ?_
      refine wl (s_pickf (et (k10 d3)) ec (dt (q20 p2)) ?_)
      refine wl (s_assign (et (k20 d2)) (dt p6) ?_)
      refine wnil ?_
      refine xl ?_
      replace hS:=hS.bg (Bg.s Bg.z)
      exact ⟨_,_,rfl,(aK6 (aI (aO10 (aO6 aZ)))),_,false,rfl,h,Le.r,hS⟩
  · rintro _ t w2 ⟨μ1,b16,rfl,h,le26,hS⟩
    unfold p_primary_j1 at h
    refine nrm (mK6 (mi (mO10 (mO6 mz)))) ?_
    refine xn ?_
    refine cifb (et d6) (fun h27=>?_) (fun h27=>?_)
    · replace h:=iT h27 h
      refine cseq ?_
      refine creg ?_
      refine wl (s_move (et d0) (dt (q20 p3)) ?_)
      rcases bTe h with ⟨e_,g29,rfl⟩ | ⟨r28,g29,h⟩
      · refine wl (s_callte isfn24 ef (e1 (et (k20 d3)) e0) (p_number_w (hg.t le26) (m5.up le26) g29 hS) ?_)
        rintro w_ ⟨μ_,v0_,v1_,i_,le_,hS⟩
        replace hS:=Sep.dropL (l:=[_]) hS
        exact thN (P:=Tryd.prog) (fn:=Tryd.f70) ⟨_,_,_,_,(le26.t le_),hS⟩
      refine wl (s_callv isfn24 ef (e1 (et (k20 d3)) e0) ((p_number_w (hg.t le26) (m5.up le26) g29 hS).ok) ?_)
      rintro _ w3 ⟨μ2,a31,c32,rfl,le30,hS,m33⟩
      refine pu (dt (q20 p4)) ?_
      refine wl (s_build ti39 pl39 (Fl.o rfl ec rfl rfl p0 (Fl.o rfl (et (k20 d4)) rfl rfl p1 Fl.z)) (dt (q20 p5)) ?_)
      refine wl (s_storeA ti39 (et d2) (et (k20 d5)) rfl rfl hS d1 rfl p1 dn ?_)
      clear hS; intro w4 hS
      refine wnil ?_
      refine xn ?_
      refine cret ?_
      refine (fun h=>br (xr h)) ?_
      obtain rfl:=oI h
      refine okT ?_
      refine retN rfl (RVs.s (.a d2 ti39 (hS.blk d1).cells rfl) RVs.z) ?_
      replace hS:=hS.drop (Rm.s Rm.z)
      exact ⟨_,none,0,a31,c32,rfl,(le26.t le30),hS,Sl.nil,m33⟩
    · replace h:=iF h27 h
      refine cseq ?_
      refine creg ?_
      refine wl (s_move (et d0) (dt (q20 p7)) ?_)
      replace h:=bI h; obtain ⟨r34,g35,h⟩:=h
      refine wl (s_callv isfn21 ef (e1 (et (k20 d7)) (e1 ec e0)) (p_is_w (hg.t le26) (m5.up le26) g35 hS) ?_)
      rintro _ w5 ⟨μ3,a37,c38,rfl,le36,hS,m39⟩
      refine pu (dt (q20 p8)) ?_
      refine wl (s_assign (et (k20 d8)) (dt (q20 p6)) ?_)
      refine wnil ?_
      refine xn ?_
      refine cifb (et (k20 d6)) (fun h40=>?_) (fun h40=>?_)
      · replace h:=iT h40 h
        refine cseq ?_
        refine creg ?_
        refine wl (s_build ti39 pl39 (Fl.o rfl ec rfl rfl p0 (Fl.o rfl ec rfl rfl p1 Fl.z)) (dt (q20 p9)) ?_)
        refine wl (s_storeA ti39 (et d2) (et (k20 d9)) rfl rfl hS d1 rfl p1 dn ?_)
        clear hS; intro w6 hS
        refine wnil ?_
        refine xn ?_
        refine cret ?_
        refine (fun h=>br (xr h)) ?_
        obtain rfl:=oI h
        refine okT ?_
        refine retN rfl (RVs.s (.a d2 ti39 (hS.blk d1).cells rfl) RVs.z) ?_
        replace hS:=hS.drop (Rm.s Rm.z)
        exact ⟨_,none,0,a37,c38,rfl,(le26.t le36),hS,Sl.nil,m39⟩
      · replace h:=iF h40 h
        refine cseq ?_
        refine creg ?_
        refine wl (s_move (et d0) (dt (q30 p1)) ?_)
        replace h:=bI h; obtain ⟨r41,g42,h⟩:=h
        refine wl (s_callv isfn21 ef (e1 (et (k30 d1)) (e1 ec e0)) (p_is_w (hg.t (le26.t le36)) m39 g42 hS) ?_)
        rintro _ w7 ⟨μ4,a44,c45,rfl,le43,hS,m46⟩
        refine pu (dt (q30 p2)) ?_
        refine wl (s_assign (et (k30 d2)) (dt (q30 p0)) ?_)
        refine wnil ?_
        refine xn ?_
        refine cifb (et (k30 d0)) (fun h47=>?_) (fun h47=>?_)
        · replace h:=iT h47 h
          refine cseq ?_
          refine creg ?_
          refine wl (s_build ti39 pl39 (Fl.o rfl ec rfl rfl p0 Fl.z) (dt (q30 p3)) ?_)
          refine wl (s_storeA ti39 (et d2) (et (k30 d3)) rfl rfl hS d1 rfl p1 dn ?_)
          clear hS; intro w8 hS
          refine wnil ?_
          refine xn ?_
          refine cret ?_
          refine (fun h=>br (xr h)) ?_
          obtain rfl:=oI h
          refine okT ?_
          refine retN rfl (RVs.s (.a d2 ti39 (hS.blk d1).cells rfl) RVs.z) ?_
          replace hS:=hS.drop (Rm.s Rm.z)
          exact ⟨_,none,0,a44,c45,rfl,(le26.t (le36.t le43)),hS,Sl.nil,m46⟩
        · replace h:=iF h47 h
          refine cseq ?_
          refine creg ?_
          refine wl (s_move (et d0) (dt (q30 p5)) ?_)
          replace h:=bI h; obtain ⟨r48,g49,h⟩:=h
          refine wl (s_callv isfn21 ef (e1 (et (k30 d5)) (e1 ec e0)) (p_is_w (hg.t (le26.t (le36.t le43))) m46 g49 hS) ?_)
          rintro _ w9 ⟨μ5,a51,c52,rfl,le50,hS,m53⟩
          refine pu (dt (q30 p6)) ?_
          refine wl (s_assign (et (k30 d6)) (dt (q30 p4)) ?_)
          refine wnil ?_
          refine xn ?_
          refine cifb (et (k30 d4)) (fun h54=>?_) (fun h54=>?_)
          · replace h:=iT h54 h
            refine cseq ?_
            refine creg ?_
            refine wl (s_move (et d0) (dt (q30 p7)) ?_)
            rcases bTe h with ⟨e_,g56,rfl⟩ | ⟨r55,g56,h⟩
            · refine wl (s_callte isfn50 ef (e1 (et (k30 d7)) e0) (IH.p_expr (hg.t (le26.t (le36.t (le43.t le50)))) m53 g56 hS) ?_)
              rintro w_ ⟨μ_,v0_,v1_,i_,le_,hS⟩
              replace hS:=Sep.dropL (l:=[_]) hS
              exact thN (P:=Tryd.prog) (fn:=Tryd.f70) ⟨_,_,_,_,((le26.t (le36.t (le43.t le50))).t le_),hS⟩
            refine wl (s_callv isfn50 ef (e1 (et (k30 d7)) e0) ((IH.p_expr (hg.t (le26.t (le36.t (le43.t le50)))) m53 g56 hS).ok) ?_)
            rintro _ w10 ⟨μ6,a58,c59,a61,c62,rfl,le57,hS,m60,m63⟩
            refine pu (dt (q30 p8)) ?_
            refine wl (s_alloc ti39 hS ?_); clear hS; intro b64 w11 hb65 hS; refine pu (dt p3) ?_
            refine wl (s_storeA ti39 (et d3) (et (k30 d8)) rfl rfl hS d0 rfl p0 dn ?_)
            clear hS; intro w12 hS
            refine wnil ?_
            refine xn ?_
            refine cseq ?_
            refine creg ?_
            refine wl (s_move (et d0) (dt (q30 p9)) ?_)
            refine wl (s_bsl Tryd.underlying81 ti9 (Parts.s ec rfl Parts.z) rfl rfl hS ?_); clear hS; intro b66 w13 hb67 hS; refine pu (dt (q40 p0)) ?_
            obtain ⟨μ7,le69,m68,hS⟩:=Sep.frzBlk (l:=([[41]]:List (List UInt8))) hS (Rw.one (α:=List UInt8) rfl) (Nat.le_of_ble_eq_true rfl)
            replace hS:=hS.bg (Bg.s Bg.z)
            rcases bTe h with ⟨e_,g71,rfl⟩ | ⟨r70,g71,h⟩
            · refine wl (s_callte isfn25 ef (e1 (et (k30 d9)) (e1 (et (k40 d0)) e0)) (p_need_w (hg.t (le26.t (le36.t (le43.t (le50.t (le57.t le69)))))) (m63.up le69) m68 g71 hS) ?_)
              rintro w_ ⟨μ_,v0_,v1_,i_,le_,hS⟩
              replace hS:=Sep.dropL (l:=[_,_]) hS
              exact thN (P:=Tryd.prog) (fn:=Tryd.f70) ⟨_,_,_,_,((le26.t (le36.t (le43.t (le50.t (le57.t le69))))).t le_),hS⟩
            refine wl (s_callv isfn25 ef (e1 (et (k30 d9)) (e1 (et (k40 d0)) e0)) ((p_need_w (hg.t (le26.t (le36.t (le43.t (le50.t (le57.t le69)))))) (m63.up le69) m68 g71 hS).ok) ?_)
            rintro _ w14 ⟨μ8,a73,c74,rfl,le72,hS,m75⟩
            refine pu (dt (q40 p1)) ?_
            refine wnil ?_
            refine xn ?_
            refine cseq ?_
            refine creg ?_
            refine wl (s_loads ti39 (et d3) (hS.blk d1).cells rfl (dt (q40 p2)) ?_)
            refine wl (s_storeA ti39 (et d2) (et (k40 d2)) rfl rfl hS d2 rfl p2 dn ?_)
            clear hS; intro w15 hS
            refine wnil ?_
            refine xn ?_
            refine cret ?_
            refine (fun h=>br (xr h)) ?_
            obtain rfl:=oI h
            refine okT ?_
            refine retN rfl (RVs.s (.a d2 ti39 (hS.blk d2).cells rfl) RVs.z) ?_
            replace hS:=hS.drop (Rm.s Rm.z)
            replace hS:=hS.drop (Rm.s Rm.z)
            exact ⟨_,a58,c59,a73,c74,rfl,(le26.t (le36.t (le43.t (le50.t (le57.t (le69.t le72)))))),hS,(m60.up (le69.t le72)),m75⟩
          · replace h:=iF h54 h
            refine cseq ?_
            refine creg ?_
            refine wl (s_move (et d0) (dt (q40 p4)) ?_)
            replace h:=bI h; obtain ⟨r76,g77,h⟩:=h
            refine wl (s_callv isfn21 ef (e1 (et (k40 d4)) (e1 ec e0)) (p_is_w (hg.t (le26.t (le36.t (le43.t le50)))) m53 g77 hS) ?_)
            rintro _ w16 ⟨μ9,a79,c80,rfl,le78,hS,m81⟩
            refine pu (dt (q40 p5)) ?_
            refine wl (s_assign (et (k40 d5)) (dt (q40 p3)) ?_)
            refine wnil ?_
            refine xn ?_
            refine cifb (et (k40 d3)) (fun h82=>?_) (fun h82=>?_)
            · replace h:=iT h82 h
              refine cseq ?_
              refine creg ?_
              refine wl (s_move (et d0) (dt (q40 p6)) ?_)
              refine wl (s_bsl Tryd.underlying81 ti9 (Parts.s ec rfl Parts.z) rfl rfl hS ?_); clear hS; intro b83 w17 hb84 hS; refine pu (dt (q40 p7)) ?_
              obtain ⟨μ10,le86,m85,hS⟩:=Sep.frzBlk (l:=([[40]]:List (List UInt8))) hS (Rw.one (α:=List UInt8) rfl) (Nat.le_of_ble_eq_true rfl)
              rcases bTe h with ⟨e_,g88,rfl⟩ | ⟨r87,g88,h⟩
              · refine wl (s_callte isfn25 ef (e1 (et (k40 d6)) (e1 (et (k40 d7)) e0)) (p_need_w (hg.t (le26.t (le36.t (le43.t (le50.t (le78.t le86)))))) (m81.up le86) m85 g88 hS) ?_)
                rintro w_ ⟨μ_,v0_,v1_,i_,le_,hS⟩
                replace hS:=Sep.dropL (l:=[_]) hS
                exact thN (P:=Tryd.prog) (fn:=Tryd.f70) ⟨_,_,_,_,((le26.t (le36.t (le43.t (le50.t (le78.t le86))))).t le_),hS⟩
              refine wl (s_callv isfn25 ef (e1 (et (k40 d6)) (e1 (et (k40 d7)) e0)) ((p_need_w (hg.t (le26.t (le36.t (le43.t (le50.t (le78.t le86)))))) (m81.up le86) m85 g88 hS).ok) ?_)
              rintro _ w18 ⟨μ11,a90,c91,rfl,le89,hS,m92⟩
              refine pu (dt (q40 p8)) ?_
              refine wnil ?_
              refine xn ?_
              refine cseq ?_
              refine creg ?_
              refine wl (s_move (et d0) (dt (q40 p9)) ?_)
              rcases bTe h with ⟨e_,g94,rfl⟩ | ⟨r93,g94,h⟩
              · refine wl (s_callte isfn22 ef (e1 (et (k40 d9)) e0) (p_name_w (hg.t (le26.t (le36.t (le43.t (le50.t (le78.t (le86.t le89))))))) m92 g94 hS) ?_)
                rintro w_ ⟨μ_,v0_,v1_,i_,le_,hS⟩
                replace hS:=Sep.dropL (l:=[_]) hS
                exact thN (P:=Tryd.prog) (fn:=Tryd.f70) ⟨_,_,_,_,((le26.t (le36.t (le43.t (le50.t (le78.t (le86.t le89)))))).t le_),hS⟩
              refine wl (s_callv isfn22 ef (e1 (et (k40 d9)) e0) ((p_name_w (hg.t (le26.t (le36.t (le43.t (le50.t (le78.t (le86.t le89))))))) m92 g94 hS).ok) ?_)
              rintro _ w19 ⟨μ12,a96,c97,rfl,le95,hS,m98⟩
              refine pu (dt (q50 p0)) ?_
              refine wl (s_build ti39 pl39 (Fl.o rfl ec rfl rfl p0 (Fl.o rfl (et (k50 d0)) rfl rfl p2 Fl.z)) (dt (q50 p1)) ?_)
              refine wl (s_alloc ti39 hS ?_); clear hS; intro b99 w20 hb100 hS; refine pu (dt p4) ?_
              refine wl (s_storeA ti39 (et d4) (et (k50 d1)) rfl rfl hS d0 rfl p0 dn ?_)
              clear hS; intro w21 hS
              refine wnil ?_
              refine xn ?_
              refine cseq ?_
              refine creg ?_
              refine wl (s_move (et d0) (dt (q50 p2)) ?_)
              refine wl (s_bsl Tryd.underlying81 ti9 (Parts.s ec rfl Parts.z) rfl rfl hS ?_); clear hS; intro b101 w22 hb102 hS; refine pu (dt (q50 p3)) ?_
              obtain ⟨μ13,le104,m103,hS⟩:=Sep.frzBlk (l:=([[41]]:List (List UInt8))) hS (Rw.one (α:=List UInt8) rfl) (Nat.le_of_ble_eq_true rfl)
              replace hS:=hS.bg (Bg.s Bg.z)
              rcases bTe h with ⟨e_,g106,rfl⟩ | ⟨r105,g106,h⟩
              · refine wl (s_callte isfn25 ef (e1 (et (k50 d2)) (e1 (et (k50 d3)) e0)) (p_need_w (hg.t (le26.t (le36.t (le43.t (le50.t (le78.t (le86.t (le89.t (le95.t le104))))))))) (m98.up le104) m103 g106 hS) ?_)
                rintro w_ ⟨μ_,v0_,v1_,i_,le_,hS⟩
                replace hS:=Sep.dropL (l:=[_,_]) hS
                exact thN (P:=Tryd.prog) (fn:=Tryd.f70) ⟨_,_,_,_,((le26.t (le36.t (le43.t (le50.t (le78.t (le86.t (le89.t (le95.t le104)))))))).t le_),hS⟩
              refine wl (s_callv isfn25 ef (e1 (et (k50 d2)) (e1 (et (k50 d3)) e0)) ((p_need_w (hg.t (le26.t (le36.t (le43.t (le50.t (le78.t (le86.t (le89.t (le95.t le104))))))))) (m98.up le104) m103 g106 hS).ok) ?_)
              rintro _ w23 ⟨μ14,a108,c109,rfl,le107,hS,m110⟩
              refine pu (dt (q50 p4)) ?_
              refine wnil ?_
              refine xn ?_
              refine cseq ?_
              refine creg ?_
              refine wl (s_loads ti39 (et d4) (hS.blk d1).cells rfl (dt (q50 p5)) ?_)
              refine wl (s_storeA ti39 (et d2) (et (k50 d5)) rfl rfl hS d2 rfl p2 dn ?_)
              clear hS; intro w24 hS
              refine wnil ?_
              refine xn ?_
              refine cret ?_
              refine (fun h=>br (xr h)) ?_
              obtain rfl:=oI h
              refine okT ?_
              refine retN rfl (RVs.s (.a d2 ti39 (hS.blk d2).cells rfl) RVs.z) ?_
              replace hS:=hS.drop (Rm.s Rm.z)
              replace hS:=hS.drop (Rm.s Rm.z)
              exact ⟨_,none,0,a108,c109,rfl,(le26.t (le36.t (le43.t (le50.t (le78.t (le86.t (le89.t (le95.t (le104.t le107))))))))),hS,Sl.nil,m110⟩
            · replace h:=iF h82 h
              refine cseq ?_
              refine creg ?_
              refine wl (s_move (et d0) (dt (q50 p7)) ?_)
              replace h:=bI h; obtain ⟨r111,g112,h⟩:=h
              refine wl (s_callv isfn21 ef (e1 (et (k50 d7)) (e1 ec e0)) (p_is_w (hg.t (le26.t (le36.t (le43.t (le50.t le78))))) m81 g112 hS) ?_)
              rintro _ w25 ⟨μ15,a114,c115,rfl,le113,hS,m116⟩
              refine pu (dt (q50 p8)) ?_
              refine wl (s_assign (et (k50 d8)) (dt (q50 p6)) ?_)
              refine wnil ?_
              refine xn ?_
              refine cifb (et (k50 d6)) (fun h117=>?_) (fun h117=>?_)
              · replace h:=iT h117 h
                refine cseq ?_
                refine creg ?_
                refine wl (s_move (et d0) (dt (q50 p9)) ?_)
                rcases bTe h with ⟨e_,g119,rfl⟩ | ⟨r118,g119,h⟩
                · refine wl (s_callte isfn77 ef (e1 (et (k50 d9)) (e1 ec (e1 ec e0))) (IH.p_fixed (hg.t (le26.t (le36.t (le43.t (le50.t (le78.t le113)))))) m116 g119 hS) ?_)
                  rintro w_ ⟨μ_,v0_,v1_,i_,le_,hS⟩
                  replace hS:=Sep.dropL (l:=[_]) hS
                  exact thN (P:=Tryd.prog) (fn:=Tryd.f70) ⟨_,_,_,_,((le26.t (le36.t (le43.t (le50.t (le78.t le113))))).t le_),hS⟩
                refine wl (s_callv isfn77 ef (e1 (et (k50 d9)) (e1 ec (e1 ec e0))) ((IH.p_fixed (hg.t (le26.t (le36.t (le43.t (le50.t (le78.t le113)))))) m116 g119 hS).ok) ?_)
                rintro _ w26 ⟨μ16,a121,c122,a124,c125,rfl,le120,hS,m123,m126⟩
                refine pu (dt (q60 p0)) ?_
                refine wl (s_storeA ti39 (et d2) (et (k60 d0)) rfl rfl hS d1 rfl p1 dn ?_)
                clear hS; intro w27 hS
                refine wnil ?_
                refine xn ?_
                refine cret ?_
                refine (fun h=>br (xr h)) ?_
                obtain rfl:=oI h
                refine okT ?_
                refine retN rfl (RVs.s (.a d2 ti39 (hS.blk d1).cells rfl) RVs.z) ?_
                replace hS:=hS.drop (Rm.s Rm.z)
                exact ⟨_,a121,c122,a124,c125,rfl,(le26.t (le36.t (le43.t (le50.t (le78.t (le113.t le120)))))),hS,m123,m126⟩
              · replace h:=iF h117 h
                refine cseq ?_
                refine creg ?_
                refine wl (s_move (et d0) (dt (q60 p2)) ?_)
                replace h:=bI h; obtain ⟨r127,g128,h⟩:=h
                refine wl (s_callv isfn21 ef (e1 (et (k60 d2)) (e1 ec e0)) (p_is_w (hg.t (le26.t (le36.t (le43.t (le50.t (le78.t le113)))))) m116 g128 hS) ?_)
                rintro _ w28 ⟨μ17,a130,c131,rfl,le129,hS,m132⟩
                refine pu (dt (q60 p3)) ?_
                refine wl (s_assign (et (k60 d3)) (dt (q60 p1)) ?_)
                refine wnil ?_
                refine xn ?_
                refine cifb (et (k60 d1)) (fun h133=>?_) (fun h133=>?_)
                · replace h:=iT h133 h
                  refine cseq ?_
                  refine creg ?_
                  refine wl (s_move (et d0) (dt (q60 p4)) ?_)
                  rcases bTe h with ⟨e_,g135,rfl⟩ | ⟨r134,g135,h⟩
                  · refine wl (s_callte isfn77 ef (e1 (et (k60 d4)) (e1 ec (e1 ec e0))) (IH.p_fixed (hg.t (le26.t (le36.t (le43.t (le50.t (le78.t (le113.t le129))))))) m132 g135 hS) ?_)
                    rintro w_ ⟨μ_,v0_,v1_,i_,le_,hS⟩
                    replace hS:=Sep.dropL (l:=[_]) hS
                    exact thN (P:=Tryd.prog) (fn:=Tryd.f70) ⟨_,_,_,_,((le26.t (le36.t (le43.t (le50.t (le78.t (le113.t le129)))))).t le_),hS⟩
                  refine wl (s_callv isfn77 ef (e1 (et (k60 d4)) (e1 ec (e1 ec e0))) ((IH.p_fixed (hg.t (le26.t (le36.t (le43.t (le50.t (le78.t (le113.t le129))))))) m132 g135 hS).ok) ?_)
                  rintro _ w29 ⟨μ18,a137,c138,a140,c141,rfl,le136,hS,m139,m142⟩
                  refine pu (dt (q60 p5)) ?_
                  refine wl (s_storeA ti39 (et d2) (et (k60 d5)) rfl rfl hS d1 rfl p1 dn ?_)
                  clear hS; intro w30 hS
                  refine wnil ?_
                  refine xn ?_
                  refine cret ?_
                  refine (fun h=>br (xr h)) ?_
                  obtain rfl:=oI h
                  refine okT ?_
                  refine retN rfl (RVs.s (.a d2 ti39 (hS.blk d1).cells rfl) RVs.z) ?_
                  replace hS:=hS.drop (Rm.s Rm.z)
                  exact ⟨_,a137,c138,a140,c141,rfl,(le26.t (le36.t (le43.t (le50.t (le78.t (le113.t (le129.t le136))))))),hS,m139,m142⟩
                · replace h:=iF h133 h
                  refine cseq ?_
                  refine creg ?_
                  refine wl (s_move (et d0) (dt (q60 p7)) ?_)
                  replace h:=bI h; obtain ⟨r143,g144,h⟩:=h
                  refine wl (s_callv isfn21 ef (e1 (et (k60 d7)) (e1 ec e0)) (p_is_w (hg.t (le26.t (le36.t (le43.t (le50.t (le78.t (le113.t le129))))))) m132 g144 hS) ?_)
                  rintro _ w31 ⟨μ19,a146,c147,rfl,le145,hS,m148⟩
                  refine pu (dt (q60 p8)) ?_
                  refine wl (s_assign (et (k60 d8)) (dt (q60 p6)) ?_)
                  refine wnil ?_
                  refine xn ?_
                  refine cifb (et (k60 d6)) (fun h149=>?_) (fun h149=>?_)
                  · replace h:=iT h149 h
                    refine cseq ?_
                    refine creg ?_
                    refine wl (s_move (et d0) (dt (q60 p9)) ?_)
                    rcases bTe h with ⟨e_,g151,rfl⟩ | ⟨r150,g151,h⟩
                    · refine wl (s_callte isfn77 ef (e1 (et (k60 d9)) (e1 ec (e1 ec e0))) (IH.p_fixed (hg.t (le26.t (le36.t (le43.t (le50.t (le78.t (le113.t (le129.t le145)))))))) m148 g151 hS) ?_)
                      rintro w_ ⟨μ_,v0_,v1_,i_,le_,hS⟩
                      replace hS:=Sep.dropL (l:=[_]) hS
                      exact thN (P:=Tryd.prog) (fn:=Tryd.f70) ⟨_,_,_,_,((le26.t (le36.t (le43.t (le50.t (le78.t (le113.t (le129.t le145))))))).t le_),hS⟩
                    refine wl (s_callv isfn77 ef (e1 (et (k60 d9)) (e1 ec (e1 ec e0))) ((IH.p_fixed (hg.t (le26.t (le36.t (le43.t (le50.t (le78.t (le113.t (le129.t le145)))))))) m148 g151 hS).ok) ?_)
                    rintro _ w32 ⟨μ20,a153,c154,a156,c157,rfl,le152,hS,m155,m158⟩
                    refine pu (dt (q70 p0)) ?_
                    refine wl (s_storeA ti39 (et d2) (et (k70 d0)) rfl rfl hS d1 rfl p1 dn ?_)
                    clear hS; intro w33 hS
                    refine wnil ?_
                    refine xn ?_
                    refine cret ?_
                    refine (fun h=>br (xr h)) ?_
                    obtain rfl:=oI h
                    refine okT ?_
                    refine retN rfl (RVs.s (.a d2 ti39 (hS.blk d1).cells rfl) RVs.z) ?_
                    replace hS:=hS.drop (Rm.s Rm.z)
                    exact ⟨_,a153,c154,a156,c157,rfl,(le26.t (le36.t (le43.t (le50.t (le78.t (le113.t (le129.t (le145.t le152)))))))),hS,m155,m158⟩
                  · replace h:=iF h149 h
                    refine cseq ?_
                    refine creg ?_
                    refine wl (s_move (et d0) (dt (q70 p2)) ?_)
                    replace h:=bI h; obtain ⟨r159,g160,h⟩:=h
                    refine wl (s_callv isfn21 ef (e1 (et (k70 d2)) (e1 ec e0)) (p_is_w (hg.t (le26.t (le36.t (le43.t (le50.t (le78.t (le113.t (le129.t le145)))))))) m148 g160 hS) ?_)
                    rintro _ w34 ⟨μ21,a162,c163,rfl,le161,hS,m164⟩
                    refine pu (dt (q70 p3)) ?_
                    refine wl (s_assign (et (k70 d3)) (dt (q70 p1)) ?_)
                    refine wnil ?_
                    refine xn ?_
                    refine cifb (et (k70 d1)) (fun h165=>?_) (fun h165=>?_)
                    · replace h:=iT h165 h
                      refine cseq ?_
                      refine creg ?_
                      refine wl (s_move (et d0) (dt (q70 p4)) ?_)
                      rcases bTe h with ⟨e_,g167,rfl⟩ | ⟨r166,g167,h⟩
                      · refine wl (s_callte isfn22 ef (e1 (et (k70 d4)) e0) (p_name_w (hg.t (le26.t (le36.t (le43.t (le50.t (le78.t (le113.t (le129.t (le145.t le161))))))))) m164 g167 hS) ?_)
                        rintro w_ ⟨μ_,v0_,v1_,i_,le_,hS⟩
                        replace hS:=Sep.dropL (l:=[_]) hS
                        exact thN (P:=Tryd.prog) (fn:=Tryd.f70) ⟨_,_,_,_,((le26.t (le36.t (le43.t (le50.t (le78.t (le113.t (le129.t (le145.t le161)))))))).t le_),hS⟩
                      refine wl (s_callv isfn22 ef (e1 (et (k70 d4)) e0) ((p_name_w (hg.t (le26.t (le36.t (le43.t (le50.t (le78.t (le113.t (le129.t (le145.t le161))))))))) m164 g167 hS).ok) ?_)
                      rintro _ w35 ⟨μ22,a169,c170,rfl,le168,hS,m171⟩
                      refine pu (dt (q70 p5)) ?_
                      refine wl (s_move (et d0) (dt (q70 p6)) ?_)
                      rcases bTe h with ⟨e_,g173,rfl⟩ | ⟨r172,g173,h⟩
                      · refine wl (s_callte isfn78 ef (e1 (et (k70 d6)) e0) (IH.p_args (hg.t (le26.t (le36.t (le43.t (le50.t (le78.t (le113.t (le129.t (le145.t (le161.t le168)))))))))) m171 g173 hS) ?_)
                        rintro w_ ⟨μ_,v0_,v1_,i_,le_,hS⟩
                        replace hS:=Sep.dropL (l:=[_]) hS
                        exact thN (P:=Tryd.prog) (fn:=Tryd.f70) ⟨_,_,_,_,((le26.t (le36.t (le43.t (le50.t (le78.t (le113.t (le129.t (le145.t (le161.t le168))))))))).t le_),hS⟩
                      refine wl (s_callv isfn78 ef (e1 (et (k70 d6)) e0) ((IH.p_args (hg.t (le26.t (le36.t (le43.t (le50.t (le78.t (le113.t (le129.t (le145.t (le161.t le168)))))))))) m171 g173 hS).ok) ?_)
                      rintro _ w36 ⟨μ23,a175,c176,a178,c179,rfl,le174,hS,m177,m180⟩
                      refine pu (dt (q70 p7)) ?_
                      refine wl (s_build ti39 pl39 (Fl.o rfl ec rfl rfl p0 (Fl.o rfl (et (k70 d5)) rfl rfl p2 (Fl.o rfl (et (k70 d7)) rfl rfl p3 Fl.z))) (dt (q70 p8)) ?_)
                      refine wl (s_storeA ti39 (et d2) (et (k70 d8)) rfl rfl hS d1 rfl p1 dn ?_)
                      clear hS; intro w37 hS
                      refine wnil ?_
                      refine xn ?_
                      refine cret ?_
                      refine (fun h=>br (xr h)) ?_
                      obtain rfl:=oI h
                      refine okT ?_
                      refine retN rfl (RVs.s (.a d2 ti39 (hS.blk d1).cells rfl) RVs.z) ?_
                      replace hS:=hS.drop (Rm.s Rm.z)
                      exact ⟨_,a175,c176,a178,c179,rfl,(le26.t (le36.t (le43.t (le50.t (le78.t (le113.t (le129.t (le145.t (le161.t (le168.t le174)))))))))),hS,m177,m180⟩
                    · replace h:=iF h165 h
                      refine cskip ?_
                      refine (fun h=>bn (xn h)) ?_
                      refine cseq ?_
                      refine creg ?_
                      refine wl (s_move (et d0) (dt (q70 p9)) ?_)
                      rcases bTe h with ⟨e_,g182,rfl⟩ | ⟨r181,g182,h⟩
                      · refine wl (s_callte isfn22 ef (e1 (et (k70 d9)) e0) (p_name_w (hg.t (le26.t (le36.t (le43.t (le50.t (le78.t (le113.t (le129.t (le145.t le161))))))))) m164 g182 hS) ?_)
                        rintro w_ ⟨μ_,v0_,v1_,i_,le_,hS⟩
                        replace hS:=Sep.dropL (l:=[_]) hS
                        exact thN (P:=Tryd.prog) (fn:=Tryd.f70) ⟨_,_,_,_,((le26.t (le36.t (le43.t (le50.t (le78.t (le113.t (le129.t (le145.t le161)))))))).t le_),hS⟩
                      refine wl (s_callv isfn22 ef (e1 (et (k70 d9)) e0) ((p_name_w (hg.t (le26.t (le36.t (le43.t (le50.t (le78.t (le113.t (le129.t (le145.t le161))))))))) m164 g182 hS).ok) ?_)
                      rintro _ w38 ⟨μ24,a184,c185,rfl,le183,hS,m186⟩
                      refine pu (dt (q80 p0)) ?_
                      refine wl (s_assign (et (k80 d0)) (dt p5) ?_)
                      refine wnil ?_
                      refine xn ?_
                      refine cseq ?_
                      refine cseq ?_
                      refine creg ?_
                      refine wl (s_move (et d0) (dt (q80 p1)) ?_)
                      replace h:=bI h; obtain ⟨r187,g188,h⟩:=h
                      refine wl (s_callv isfn34 ef (e1 (et (k80 d1)) (e1 ec e0)) (p_sees_w (hg.t (le26.t (le36.t (le43.t (le50.t (le78.t (le113.t (le129.t (le145.t (le161.t le183)))))))))) m186 g188 hS) ?_)
                      rintro _ w39 ⟨μ25,rfl,le189,hS⟩
                      refine pu (dt (q80 p2)) ?_
                      refine wnil ?_
                      refine xn ?_
                      refine cifb (et (k80 d2)) (fun h190=>?_) (fun h190=>?_)
                      · replace h:=iT h190 h
                        refine cseq ?_
                        refine creg ?_
                        refine wl (s_move (et d5) (dt (q80 p3)) ?_)
                        refine wl (s_move (et d0) (dt (q80 p4)) ?_)
                        rcases bTe h with ⟨e_,g192,rfl⟩ | ⟨r191,g192,h⟩
                        · refine wl (s_callte isfn78 ef (e1 (et (k80 d4)) e0) (IH.p_args (hg.t (le26.t (le36.t (le43.t (le50.t (le78.t (le113.t (le129.t (le145.t (le161.t (le183.t le189))))))))))) (m186.up le189) g192 hS) ?_)
                          rintro w_ ⟨μ_,v0_,v1_,i_,le_,hS⟩
                          replace hS:=Sep.dropL (l:=[_]) hS
                          exact thN (P:=Tryd.prog) (fn:=Tryd.f70) ⟨_,_,_,_,((le26.t (le36.t (le43.t (le50.t (le78.t (le113.t (le129.t (le145.t (le161.t (le183.t le189)))))))))).t le_),hS⟩
                        refine wl (s_callv isfn78 ef (e1 (et (k80 d4)) e0) ((IH.p_args (hg.t (le26.t (le36.t (le43.t (le50.t (le78.t (le113.t (le129.t (le145.t (le161.t (le183.t le189))))))))))) (m186.up le189) g192 hS).ok) ?_)
                        rintro _ w40 ⟨μ26,a194,c195,a197,c198,rfl,le193,hS,m196,m199⟩
                        refine pu (dt (q80 p5)) ?_
                        refine wl (s_build ti39 pl39 (Fl.o rfl ec rfl rfl p0 (Fl.o rfl (et (k80 d3)) rfl rfl p2 (Fl.o rfl (et (k80 d5)) rfl rfl p3 Fl.z))) (dt (q80 p6)) ?_)
                        refine wl (s_storeA ti39 (et d2) (et (k80 d6)) rfl rfl hS d1 rfl p1 dn ?_)
                        clear hS; intro w41 hS
                        refine wnil ?_
                        refine xn ?_
                        refine cret ?_
                        refine xr ?_
                        obtain rfl:=oI h
                        refine okT ?_
                        refine retN rfl (RVs.s (.a d2 ti39 (hS.blk d1).cells rfl) RVs.z) ?_
                        replace hS:=hS.drop (Rm.s Rm.z)
                        exact ⟨_,a194,c195,a197,c198,rfl,(le26.t (le36.t (le43.t (le50.t (le78.t (le113.t (le129.t (le145.t (le161.t (le183.t (le189.t le193))))))))))),hS,m196,m199⟩
                      · replace h:=iF h190 h
                        refine cskip ?_
                        refine xn ?_
                        refine cseq ?_
                        refine creg ?_
                        refine wl (s_move (et d5) (dt (q80 p7)) ?_)
                        refine wl (s_build ti39 pl39 (Fl.o rfl ec rfl rfl p0 (Fl.o rfl (et (k80 d7)) rfl rfl p2 Fl.z)) (dt (q80 p8)) ?_)
                        refine wl (s_storeA ti39 (et d2) (et (k80 d8)) rfl rfl hS d1 rfl p1 dn ?_)
                        clear hS; intro w42 hS
                        refine wnil ?_
                        refine xn ?_
                        refine cret ?_
                        obtain rfl:=oI h
                        refine okT ?_
                        refine retN rfl (RVs.s (.a d2 ti39 (hS.blk d1).cells rfl) RVs.z) ?_
                        replace hS:=hS.drop (Rm.s Rm.z)
                        exact ⟨_,none,0,a184,c185,rfl,(le26.t (le36.t (le43.t (le50.t (le78.t (le113.t (le129.t (le145.t (le161.t (le183.t le189)))))))))),hS,Sl.nil,(m186.up le189)⟩
theorem p_args_w {self:ParE} (IH:ParESound self) {fu:Nat} {μ0:M} {w0 w:World} {rsF:List Res} (hg:Le Gm μ0) {b1:Nat} {left_2:List TToken} {a3:Option Addr} {c4:Nat} {end_6:Int} {deep_7:Int} {r:Except TFault (List TExpr×List TToken×Int×Int)} (m5:Sl μ0 a3 c4 left_2) (h:p_args fu self left_2 end_6 deep_7=some r) (hS:Sq μ0 w0 w (.blk b1 49 [.slice a3 left_2.length c4,.int .i64 end_6,.int .i64 deep_7]::rsF)):CallsT Tryd.prog 78 [.pointer (some ⟨b1,0,none⟩)] w Voops r (fun x v w'=>∃ (μ':M) (a8:Option Addr) (c9:Nat) (a11:Option Addr) (c12:Nat),v=.slice a8 x.1.length c9∧Le μ0 μ'∧Sq μ' w0 w' (.blk b1 49 [.slice a11 x.2.1.length c12,.int .i64 x.2.2.1,.int .i64 x.2.2.2]::rsF)∧Sl μ' a8 c9 x.1∧Sl μ' a11 c12 x.2.1) (EP μ0 w0 b1 49 rsF):=by
  unfold p_args at h
  refine enterT Tryd.func78 rfl (frm:=[_,_,_,_,_,_,_,_,_,_,_,_,_,_,_,_,_,_,_,_,_,_,_,_,_,_,_,_,_]) rfl ?_
  refine cseq ?_
  refine creg ?_
  refine wl (s_assign ec (dt p2) ?_)
  refine wnil ?_
  refine xn ?_
  refine cseq ?_
  refine creg ?_
  refine wl (s_assign ec (dt p3) ?_)
  refine wnil ?_
  refine xn ?_
  refine cseq ?_
  refine cseq ?_
  refine creg ?_
  refine wl (s_move (et d0) (dt p4) ?_)
  refine wl (s_bsl Tryd.underlying81 ti9 (Parts.s ec rfl Parts.z) rfl rfl hS ?_); clear hS; intro b14 w1 hb15 hS; refine pu (dt p5) ?_
  obtain ⟨μ1,le17,m16,hS⟩:=Sep.frzBlk (l:=([[40]]:List (List UInt8))) hS (Rw.one (α:=List UInt8) rfl) (Nat.le_of_ble_eq_true rfl)
  rcases bTe h with ⟨e_,g19,rfl⟩ | ⟨r18,g19,h⟩
  · refine wl (s_callte isfn25 ef (e1 (et d4) (e1 (et d5) e0)) (p_need_w (hg.t le17) (m5.up le17) m16 g19 hS) ?_)
    rintro w_ ⟨μ_,v0_,v1_,i_,le_,hS⟩
    exact thN (P:=Tryd.prog) (fn:=Tryd.f78) ⟨_,_,_,_,(le17.t le_),hS⟩
  refine wl (s_callv isfn25 ef (e1 (et d4) (e1 (et d5) e0)) ((p_need_w (hg.t le17) (m5.up le17) m16 g19 hS).ok) ?_)
  rintro _ w2 ⟨μ2,a21,c22,rfl,le20,hS,m23⟩
  refine pu (dt p6) ?_
  refine wnil ?_
  refine xn ?_
  refine cblock ?_
  replace hS:=hS.nilRow 39 (Mo.sz TExpr)
  replace hS:=hS.bg (Bg.s Bg.z)
  refine cloopE (rg 7 21) (by decide +kernel) (fun n m w=>∃ (μx:M) (l68:List TToken) (a66:Option Addr) (c67:Nat) (i70:Int) (i71:Int) (l74:List TExpr) (v72:Value) (cs73:List Value),m=(yK3 (.i (v72)::(yK3 (yO20 7 (yO1 27 [])))))∧p_args_l1 self n l68 i70 i71 l74=some r∧Le μ2 μx∧Sq μx w0 w (.blk b1 49 [.slice a66 l68.length c67,.int .i64 i70,.int .i64 i71]::.row v72 39 4 l74.length cs73::rsF)∧Sl μx a66 c67 l68∧Rw μx cs73 l74) (by rintro _ _ _ ⟨_,_,_,_,_,_,_,_,_,rfl,_⟩; rfl) _ _ (aK3 (aI (aK3 (aO20 (aO1 aZ))))) ⟨_,r18.1,a21,c22,r18.2.1,r18.2.2,[],(.slice none 0 0),[],rfl,h,Le.r,hS,m23,Rw.nil⟩ ?_
  rintro n_1 _ t w3 ⟨μ3,l68,a66,c67,i70,i71,l74,v72,cs73,rfl,h,le117,hS,m118,m119⟩
  cases n_1 with
  | zero=>cases h
  | succ n_1 =>
  unfold p_args_l1 at h
  refine cnrm (mK3 (mi (mK3 (mO20 (mO1 mz))))) ?_
  refine cseq ?_
  refine cseq ?_
  refine creg ?_
  refine wl (s_move (et d0) (dt p7) ?_)
  replace h:=bI h; obtain ⟨r120,g121,h⟩:=h
  refine wl (s_callv isfn21 ef (e1 (et d7) (e1 ec e0)) (p_is_w (hg.t (le17.t (le20.t le117))) m118 g121 hS) ?_)
  rintro _ w4 ⟨μ4,a123,c124,rfl,le122,hS,m125⟩
  refine pu (dt p8) ?_
  refine wl (s_not (et d8) (dt p9) ?_)
  refine wnil ?_
  refine xn ?_
  refine cifnb (et d9) (fun h126=>?_) (fun h126=>?_)
  · replace h:=iF h126 h
    refine cskip ?_
    refine xn ?_
    refine cblock ?_
    refine cseq ?_
    refine cseq ?_
    refine creg ?_
    refine wl (s_move (et d3) (dt (q10 p0)) ?_)
    refine wl (s_lenv Tryd.underlying37 (et (k10 d0)) (hS.get d1).isSl (dt (q10 p1)) ?_)
    refine wl (s_gtr (et (k10 d1)) ec (dt (q10 p2)) ?_)
    refine wnil ?_
    refine xn ?_
    refine ccutE (rg 13 3) (by decide) (fun m w=>∃ (μx:M) (l129:List TToken) (a127:Option Addr) (c128:Nat) (i131:Int) (i132:Int),m=(yK10 (yK3 (yO3 13 [])))∧p_args_j1 self l74 (p_args_l1 self n_1) l129 i131 i132=some r∧Le μ4 μx∧Sq μx w0 w (.blk b1 49 [.slice a127 l129.length c128,.int .i64 i131,.int .i64 i132]::.row v72 39 4 l74.length cs73::rsF)∧Sl μx a127 c128 l129) (by rintro _ _ ⟨_,_,_,_,_,_,rfl,_⟩; rfl) ?_ ?_
    · refine cifd (et (k10 d2)) (fun h133=>?_) (fun h133=>?_)
      · replace h:=iT h133 h
        refine creg ?_
        refine wl (s_move (et d0) (dt (q10 p3)) ?_)
        refine wl (s_bsl Tryd.underlying81 ti9 (Parts.s ec rfl Parts.z) rfl rfl hS ?_); clear hS; intro b134 w5 hb135 hS; refine pu (dt (q10 p4)) ?_
        obtain ⟨μ5,le137,m136,hS⟩:=Sep.frzBlk (l:=([[44]]:List (List UInt8))) hS (Rw.one (α:=List UInt8) rfl) (Nat.le_of_ble_eq_true rfl)
        rcases bTe h with ⟨e_,g139,rfl⟩ | ⟨r138,g139,h⟩
        · refine wl (s_callte isfn25 ef (e1 (et (k10 d3)) (e1 (et (k10 d4)) e0)) (p_need_w (hg.t (le17.t (le20.t (le117.t (le122.t le137))))) (m125.up le137) m136 g139 hS) ?_)
          rintro w_ ⟨μ_,v0_,v1_,i_,le_,hS⟩
          replace hS:=Sep.dropL (l:=[_]) hS
          exact thN (P:=Tryd.prog) (fn:=Tryd.f78) ⟨_,_,_,_,((le17.t (le20.t (le117.t (le122.t le137)))).t le_),hS⟩
        refine wl (s_callv isfn25 ef (e1 (et (k10 d3)) (e1 (et (k10 d4)) e0)) ((p_need_w (hg.t (le17.t (le20.t (le117.t (le122.t le137))))) (m125.up le137) m136 g139 hS).ok) ?_)
        rintro _ w6 ⟨μ6,a141,c142,rfl,le140,hS,m143⟩
        refine pu (dt (q10 p5)) ?_
        refine wnil ?_
        refine xl ?_
        exact ⟨_,_,rfl,(aK10 (aK3 (aO3 aZ))),_,r138.1,a141,c142,r138.2.1,r138.2.2,rfl,h,(le137.t le140),hS,m143⟩
      · replace h:=iF h133 h
        refine cskip ?_
        refine xl ?_
        exact ⟨_,_,rfl,(aK10 (aK3 (aO3 aZ))),_,r120.2.1,a123,c124,r120.2.2.1,r120.2.2.2,rfl,h,Le.r,hS,m125⟩
    · rintro _ t w7 ⟨μ7,l129,a127,c128,i131,i132,rfl,h,le144,hS,m145⟩
      unfold p_args_j1 at h
      refine nrm (mK10 (mK3 (mO3 mz))) ?_
      refine xn ?_
      refine cseq ?_
      refine cseq ?_
      refine creg ?_
      refine wl (s_move (et d3) (dt (q10 p6)) ?_)
      refine wl (s_lenv Tryd.underlying37 (et (k10 d6)) (hS.get d1).isSl (dt (q10 p7)) ?_)
      refine wl (s_eqi (et (k10 d7)) ec (dt (q10 p8)) ?_)
      refine wnil ?_
      refine xn ?_
      refine cifd (et (k10 d8)) (fun h146=>?_) (fun h146=>?_)
      · replace h:=iT h146 h
        refine creg ?_
        refine wl (s_move (et d0) (dt (q10 p9)) ?_)
        refine wl (s_move (et d0) (dt (q20 p0)) ?_)
        replace h:=bI h; obtain ⟨r147,g148,h⟩:=h
        refine wl (s_callv isfn10 ef (e1 (et (k20 d0)) e0) (p_at_w (hg.t (le17.t (le20.t (le117.t (le122.t le144))))) m145 g148 hS) ?_)
        rintro _ w8 ⟨μ8,rfl,le149,hS⟩
        refine pu (dt (q20 p1)) ?_
        obtain rfl:=oI h
        refine wl (s_callte isfn9 ef (e1 (et (k10 d9)) (e1 ec (e1 (et (k20 d1)) e0))) (p_fail_w (R:=fun (_:Unit) _ _=>True) hS) ?_)
        rintro w_ ⟨μ_,v0_,v1_,i_,le_,hS⟩
        replace hS:=Sep.dropL (l:=[_]) hS
        exact thN (P:=Tryd.prog) (fn:=Tryd.f78) ⟨_,_,_,_,((le17.t (le20.t (le117.t (le122.t (le144.t le149))))).t le_),hS⟩
      · replace h:=iF h146 h
        refine cskip ?_
        refine xn ?_
        refine creg ?_
        refine wl (s_move (et d3) (dt (q20 p3)) ?_)
        refine wl (s_move (et d0) (dt (q20 p4)) ?_)
        rcases bTe h with ⟨e_,g151,rfl⟩ | ⟨r150,g151,h⟩
        · refine wl (s_callte isfn50 ef (e1 (et (k20 d4)) e0) (IH.p_expr (hg.t (le17.t (le20.t (le117.t (le122.t le144))))) m145 g151 hS) ?_)
          rintro w_ ⟨μ_,v0_,v1_,i_,le_,hS⟩
          replace hS:=Sep.dropL (l:=[_]) hS
          exact thN (P:=Tryd.prog) (fn:=Tryd.f78) ⟨_,_,_,_,((le17.t (le20.t (le117.t (le122.t le144)))).t le_),hS⟩
        refine wl (s_callv isfn50 ef (e1 (et (k20 d4)) e0) ((IH.p_expr (hg.t (le17.t (le20.t (le117.t (le122.t le144))))) m145 g151 hS).ok) ?_)
        rintro _ w9 ⟨μ9,a153,c154,a156,c157,rfl,le152,hS,m155,m158⟩
        refine pu (dt (q20 p5)) ?_
        refine wl (s_bsl1 Tryd.underlying37 ti39 rfl (et (k20 d5)) rfl hS ?_); clear hS; intro b159 w10 hb160 hS; refine pu (dt (q20 p6)) ?_
        replace h:=bI h; obtain ⟨l163,g164,h⟩:=h
        have m165:Rw μ9 [.int .i64 r150.1.Kind,.int .i64 r150.1.N,S r150.1.Name,.slice a153 r150.1.Kids.length c154] [r150.1]:=(Rw.one (α:=TExpr) (TExpr.i ⟨a153,c154,rfl,m155⟩))
        have m162:=Rw.app (m119.up (le122.t (le144.t le152))) m165 g164
        refine wl (s_app1 Tryd.underlying37 ti39 rfl (et (k20 d3)) (et (k20 d6)) hS d2 (hS.blk d0).cells m165 rfl g164 (by decide) ?_); clear hS; intro v161 w11 rs_ hp_ hS; cases (show _=rs_ from hp_)
        replace hS:=Sep.reput hS p2; refine pu (dt (q20 p7)) ?_
        replace hS:=hS.drop Rm.z
        refine wl (s_assign (et (k20 d7)) (dt p3) ?_)
        refine wnil ?_
        refine (fun h=>bn (xl h)) ?_
        exact ⟨n_1,_,_,rfl,(aK3 (aI (aK3 (aO20 (aO1 aZ))))),⟨_,r150.2.1,a156,c157,r150.2.2.1,r150.2.2.2,l163,v161,(cs73++[.int .i64 r150.1.Kind,.int .i64 r150.1.N,S r150.1.Name,.slice a153 r150.1.Kids.length c154]),rfl,h,(le117.t (le122.t (le144.t le152))),hS,m158,m162⟩,Nat.lt_succ_self _⟩
  · replace h:=iT h126 h
    refine cexit ?_
    refine (fun h=>xe (xe (bh h))) ?_
    refine xn ?_
    refine cseq ?_
    refine creg ?_
    refine wl (s_move (et d3) (dt (q20 p8)) ?_)
    refine wl (s_assign (et (k20 d8)) (dt p2) ?_)
    refine wnil ?_
    refine xn ?_
    refine cret ?_
    replace hS:=hS.bg (Bg.s Bg.z)
    obtain ⟨μ10,a166,c167,e170,le169,m168,hq_⟩:=Sep.frzRow hS (m119.up le122) rfl; clear hS
    subst e170; have hS:=hq_; clear hq_
    obtain rfl:=oI h
    refine okT ?_
    refine ret1 rfl d2 ?_
    exact ⟨_,a166,c167,a123,c124,rfl,(le17.t (le20.t (le117.t (le122.t le169)))),hS,m168,(m125.up le169)⟩
theorem p_fixed_w {self:ParE} (IH:ParESound self) {μ0:M} {w0 w:World} {rsF:List Res} (hg:Le Gm μ0) {b1:Nat} {left_2:List TToken} {a3:Option Addr} {c4:Nat} {end_6:Int} {deep_7:Int} {p_2:Int} {p_3:Int} {r:Except TFault (TExpr×List TToken×Int×Int)} (m5:Sl μ0 a3 c4 left_2) (h:p_fixed self left_2 end_6 deep_7 p_2 p_3=some r) (hS:Sq μ0 w0 w (.blk b1 49 [.slice a3 left_2.length c4,.int .i64 end_6,.int .i64 deep_7]::rsF)):CallsT Tryd.prog 77 [.pointer (some ⟨b1,0,none⟩),.int .i64 p_2,.int .i64 p_3] w Voops r (fun x v w'=>∃ (μ':M) (a8:Option Addr) (c9:Nat) (a11:Option Addr) (c12:Nat),v=.agg ⟨[.int .i64 x.1.Kind,.int .i64 x.1.N,S x.1.Name,.slice a8 x.1.Kids.length c9]⟩∧Le μ0 μ'∧Sq μ' w0 w' (.blk b1 49 [.slice a11 x.2.1.length c12,.int .i64 x.2.2.1,.int .i64 x.2.2.2]::rsF)∧Sl μ' a8 c9 x.1.Kids∧Sl μ' a11 c12 x.2.1) (EP μ0 w0 b1 49 rsF):=by
  unfold p_fixed at h
  refine enterT Tryd.func77 rfl (frm:=[_,_,_,_,_,_,_,_,_,_,_,_,_,_,_,_,_,_,_,_,_,_,_,_,_,_,_,_,_,_,_,_,_,_,_]) rfl ?_
  refine cseq ?_
  refine creg ?_
  refine wl (s_alloc ti39 hS ?_); clear hS; intro b14 w1 hb15 hS; refine pu (dt p6) ?_
  refine wnil ?_
  refine xn ?_
  refine cseq ?_
  refine creg ?_
  refine wl (s_move (et d1) (dt p9) ?_)
  refine wl (s_build ti39 pl39 (Fl.o rfl (et d9) rfl rfl p0 Fl.z) (dt (q10 p0)) ?_)
  refine wl (s_alloc ti39 hS ?_); clear hS; intro b16 w2 hb17 hS; refine pu (dt p7) ?_
  refine wl (s_storeA ti39 (et d7) (et (k10 d0)) rfl rfl hS d0 rfl p0 dn ?_)
  clear hS; intro w3 hS
  refine wnil ?_
  refine xn ?_
  refine cseq ?_
  refine creg ?_
  refine wl (s_move (et d0) (dt (q10 p1)) ?_)
  refine wl (s_bsl Tryd.underlying81 ti9 (Parts.s ec rfl Parts.z) rfl rfl hS ?_); clear hS; intro b18 w4 hb19 hS; refine pu (dt (q10 p2)) ?_
  obtain ⟨μ1,le21,m20,hS⟩:=Sep.frzBlk (l:=([[40]]:List (List UInt8))) hS (Rw.one (α:=List UInt8) rfl) (Nat.le_of_ble_eq_true rfl)
  replace hS:=hS.bg (Bg.s (Bg.s Bg.z))
  rcases bTe h with ⟨e_,g23,rfl⟩ | ⟨r22,g23,h⟩
  · refine wl (s_callte isfn25 ef (e1 (et (k10 d1)) (e1 (et (k10 d2)) e0)) (p_need_w (hg.t le21) (m5.up le21) m20 g23 hS) ?_)
    rintro w_ ⟨μ_,v0_,v1_,i_,le_,hS⟩
    replace hS:=Sep.dropL (l:=[_,_]) hS
    exact thN (P:=Tryd.prog) (fn:=Tryd.f77) ⟨_,_,_,_,(le21.t le_),hS⟩
  refine wl (s_callv isfn25 ef (e1 (et (k10 d1)) (e1 (et (k10 d2)) e0)) ((p_need_w (hg.t le21) (m5.up le21) m20 g23 hS).ok) ?_)
  rintro _ w5 ⟨μ2,a25,c26,rfl,le24,hS,m27⟩
  refine pu (dt (q10 p3)) ?_
  refine wnil ?_
  refine xn ?_
  refine cseq ?_
  refine cseq ?_
  refine creg ?_
  refine wl (s_move (et d2) (dt (q10 p4)) ?_)
  refine wl (s_move ec (dt (q10 p5)) ?_)
  refine wnil ?_
  refine xn ?_
  refine cblock ?_
  replace hS:=hS.nilRow 39 (Mo.sz TExpr)
  replace hS:=hS.bg (Bg.s (Bg.s Bg.z))
  replace hS:=hS.bg (Bg.s (Bg.s (Bg.s Bg.z)))
  replace hS:=hS.bg (Bg.s (Bg.s (Bg.s Bg.z)))
  refine cloopE ([8]++rg 16 15) (by decide) (fun n m w=>∃ (μx:M) (i63:Int) (l66:List TToken) (a64:Option Addr) (c65:Nat) (i68:Int) (i69:Int) (l72:List TExpr) (v70:Value) (cs71:List Value),m=(yK8 (yO1 8 (yK6 (.i (.int .i64 i63)::(yO10 16 (yO5 26 []))))))∧p_fixed_l1 self p_2 p_3 n i63 l66 i68 i69 l72=some r∧Le μ2 μx∧Sq μx w0 w (.blk b1 49 [.slice a64 l66.length c65,.int .i64 i68,.int .i64 i69]::.blk b14 39 [.int .i64 0,.int .i64 0,S [],.slice none 0 0]::.blk b16 39 [.int .i64 p_2,.int .i64 0,S [],v70]::.row v70 39 4 l72.length cs71::rsF)∧Sl μx a64 c65 l66∧Rw μx cs71 l72) (by rintro _ _ _ ⟨_,_,_,_,_,_,_,_,_,_,rfl,_⟩; rfl) _ _ (aK8 (aO1 (aK6 (aI (aO10 (aO5 aZ)))))) ⟨_,0,r22.1,a25,c26,r22.2.1,r22.2.2,[],(.slice none 0 0),[],rfl,h,Le.r,hS,m27,Rw.nil⟩ ?_
  rintro n_1 _ t w6 ⟨μ3,i63,l66,a64,c65,i68,i69,l72,v70,cs71,rfl,h,le108,hS,m109,m110⟩
  cases n_1 with
  | zero=>cases h
  | succ n_1 =>
  unfold p_fixed_l1 at h
  refine cnrm (mK8 (mO1 (mK6 (mi (mO10 (mO5 mz)))))) ?_
  refine cseq ?_
  refine creg ?_
  refine wl (s_lss (et (k10 d5)) (et (k10 d4)) (dt (q10 p6)) ?_)
  refine wnil ?_
  refine xn ?_
  refine cseq ?_
  refine cifd (et (k10 d6)) (fun h111=>?_) (fun h111=>?_)
  · replace h:=iT h111 h
    refine cskip ?_
    refine xn ?_
    refine cseq ?_
    refine cblock ?_
    refine cseq ?_
    refine creg ?_
    refine wl (s_move (et (k10 d5)) (dt (q10 p7)) ?_)
    refine wl (s_assign (et (k10 d7)) (dt p8) ?_)
    refine wnil ?_
    refine xn ?_
    refine cseq ?_
    refine cseq ?_
    refine creg ?_
    refine wl (s_move (et d8) (dt (q10 p8)) ?_)
    refine wl (s_gtr (et (k10 d8)) ec (dt (q10 p9)) ?_)
    refine wnil ?_
    refine xn ?_
    refine ccutE (rg 20 3) (by decide) (fun m w=>∃ (μx:M) (l114:List TToken) (a112:Option Addr) (c113:Nat) (i116:Int) (i117:Int),m=(yK20 (yO3 20 []))∧p_fixed_j1 self i63 l72 (p_fixed_l1 self p_2 p_3 n_1) l114 i116 i117=some r∧Le μ3 μx∧Sq μx w0 w (.blk b1 49 [.slice a112 l114.length c113,.int .i64 i116,.int .i64 i117]::.blk b14 39 [.int .i64 0,.int .i64 0,S [],.slice none 0 0]::.blk b16 39 [.int .i64 p_2,.int .i64 0,S [],v70]::.row v70 39 4 l72.length cs71::rsF)∧Sl μx a112 c113 l114) (by rintro _ _ ⟨_,_,_,_,_,_,rfl,_⟩; rfl) ?_ ?_
    · refine cifd (et (k10 d9)) (fun h118=>?_) (fun h118=>?_)
      · replace h:=iT h118 h
        refine creg ?_
        refine wl (s_move (et d0) (dt (q20 p0)) ?_)
        refine wl (s_bsl Tryd.underlying81 ti9 (Parts.s ec rfl Parts.z) rfl rfl hS ?_); clear hS; intro b119 w7 hb120 hS; refine pu (dt (q20 p1)) ?_
        obtain ⟨μ4,le122,m121,hS⟩:=Sep.frzBlk (l:=([[44]]:List (List UInt8))) hS (Rw.one (α:=List UInt8) rfl) (Nat.le_of_ble_eq_true rfl)
        rcases bTe h with ⟨e_,g124,rfl⟩ | ⟨r123,g124,h⟩
        · refine wl (s_callte isfn25 ef (e1 (et (k20 d0)) (e1 (et (k20 d1)) e0)) (p_need_w (hg.t (le21.t (le24.t (le108.t le122)))) (m109.up le122) m121 g124 hS) ?_)
          rintro w_ ⟨μ_,v0_,v1_,i_,le_,hS⟩
          replace hS:=Sep.dropL (l:=[_,_,_]) hS
          exact thN (P:=Tryd.prog) (fn:=Tryd.f77) ⟨_,_,_,_,((le21.t (le24.t (le108.t le122))).t le_),hS⟩
        refine wl (s_callv isfn25 ef (e1 (et (k20 d0)) (e1 (et (k20 d1)) e0)) ((p_need_w (hg.t (le21.t (le24.t (le108.t le122)))) (m109.up le122) m121 g124 hS).ok) ?_)
        rintro _ w8 ⟨μ5,a126,c127,rfl,le125,hS,m128⟩
        refine pu (dt (q20 p2)) ?_
        refine wnil ?_
        refine xl ?_
        exact ⟨_,_,rfl,(aK20 (aO3 aZ)),_,r123.1,a126,c127,r123.2.1,r123.2.2,rfl,h,(le122.t le125),hS,m128⟩
      · replace h:=iF h118 h
        refine cskip ?_
        refine xl ?_
        exact ⟨_,_,rfl,(aK20 (aO3 aZ)),_,l66,a64,c65,i68,i69,rfl,h,Le.r,hS,m109⟩
    · rintro _ t w9 ⟨μ6,l114,a112,c113,i116,i117,rfl,h,le129,hS,m130⟩
      unfold p_fixed_j1 at h
      refine nrm (mK20 (mO3 mz)) ?_
      refine xn ?_
      refine ccutE (rg 23 7) (by decide) (fun m w=>∃ (μx:M) (l133:List TToken) (a131:Option Addr) (c132:Nat) (i135:Int) (i136:Int) (l139:List TExpr) (v137:Value) (cs138:List Value),m=(yK20 (yK3 (yO7 23 [])))∧p_fixed_j2 i63 (p_fixed_l1 self p_2 p_3 n_1) l133 i135 i136 l139=some r∧Le μ6 μx∧Sq μx w0 w (.blk b1 49 [.slice a131 l133.length c132,.int .i64 i135,.int .i64 i136]::.blk b14 39 [.int .i64 0,.int .i64 0,S [],.slice none 0 0]::.blk b16 39 [.int .i64 p_2,.int .i64 0,S [],v137]::.row v137 39 4 l139.length cs138::rsF)∧Sl μx a131 c132 l133∧Rw μx cs138 l139) (by rintro _ _ ⟨_,_,_,_,_,_,_,_,_,rfl,_⟩; rfl) ?_ ?_
      · refine cdraw (by kernel_rfl) rfl fun w10 hh_ ho_ ht_ hu_=>?_
        replace hS:=hS.drew hh_ ho_ ht_ hu_
        refine sf_start ?_
        refine sf_pu (i:=0) [0,1,5,6,7] (fun _ _ _ _ _ h=>h) rfl rfl rfl (u_fa fa39_3 (et d7) rfl) (q20 p3) ?_
        refine sf_rd (i:=1) [1,5,6,7] (fun _ _ _ _ _ h=>h) rfl rfl rfl (u_load ti37 (et (k20 d3)) ((hS.blk d2).cell d3)) (q20 p4) ?_
        refine sf_pu (i:=2) [2,3,4,5,6,7] (fun _ _ _ _ _ h=>h) rfl rfl rfl (u_move (et d0)) (q20 p5) ?_
        rcases bTe h with ⟨e_,g142,rfl⟩ | ⟨r141,g142,h⟩
        · refine sf1 rfl rfl rfl rfl (wn0 rfl) (s_callte isfn50 ef (e1 (et (k20 d5)) e0) (IH.p_expr (hg.t (le21.t (le24.t (le108.t le129)))) m130 g142 hS) ?_)
          rintro w_ ⟨μ_,v0_,v1_,i_,le_,hS⟩
          replace hS:=Sep.dropL (l:=[_,_,_]) hS
          exact thN (P:=Tryd.prog) (fn:=Tryd.f77) ⟨_,_,_,_,((le21.t (le24.t (le108.t le129))).t le_),hS⟩
        refine sf1 rfl rfl rfl rfl (wn0 rfl) (s_callv isfn50 ef (e1 (et (k20 d5)) e0) ((IH.p_expr (hg.t (le21.t (le24.t (le108.t le129)))) m130 g142 hS).ok) ?_)
        rintro _ w11 ⟨μ7,a144,c145,a147,c148,rfl,le143,hS,m146,m149⟩
        refine pu (dt (q20 p6)) ?_
        refine ⟨(Mons.s (u_load ti37 (et (k20 d3)) ((hS.blk d2).cell d3)) Mons.z),?_⟩
        refine sf1 rfl rfl rfl rfl (wn0 rfl) (s_bsl1 Tryd.underlying37 ti39 rfl (et (k20 d6)) rfl hS ?_); clear hS; intro b150 w12 hb151 hS; refine pu (dt (q20 p7)) ?_
        refine ⟨(Mons.s (u_load ti37 (et (k20 d3)) ((hS.blk d3).cell d3)) Mons.z),?_⟩
        replace h:=bI h; obtain ⟨l154,g155,h⟩:=h
        have m156:Rw μ7 [.int .i64 r141.1.Kind,.int .i64 r141.1.N,S r141.1.Name,.slice a144 r141.1.Kids.length c145] [r141.1]:=(Rw.one (α:=TExpr) (TExpr.i ⟨a144,c145,rfl,m146⟩))
        have m153:=Rw.app (m110.up (le129.t le143)) m156 g155
        refine sf1 rfl rfl rfl rfl (wn0 rfl) (s_app1 Tryd.underlying37 ti39 rfl (et (k20 d4)) (et (k20 d7)) hS d4 (hS.blk d0).cells m156 rfl g155 (by decide) ?_); clear hS; intro v152 w13 rs_ hp_ hS; cases (show _=rs_ from hp_)
        replace hS:=Sep.reput hS p4; refine pu (dt (q20 p8)) ?_
        replace hS:=hS.drop Rm.z
        refine ⟨Mons.z,?_⟩
        refine sf_pu (i:=6) [6,7] (fun _ _ _ _ _ h=>h) rfl rfl rfl (u_fa fa39_3 (et d7) rfl) (q20 p9) ?_
        refine sf1 rfl rfl rfl rfl (wn0 rfl) (s_store1 ti37 (et (k20 d9)) (et (k20 d8)) (hS.get d3).cellV hS d2 p3 rfl p2 dn ?_)
        clear hS; intro w14 hS
        refine ⟨Mons.z,?_⟩
        refine sf_nil ?_
        refine xl ?_
        exact ⟨_,_,rfl,(aK20 (aK3 (aO7 aZ))),_,r141.2.1,a147,c148,r141.2.2.1,r141.2.2.2,l154,v152,(cs71++[.int .i64 r141.1.Kind,.int .i64 r141.1.N,S r141.1.Name,.slice a144 r141.1.Kids.length c145]),rfl,h,le143,hS,m149,m153⟩
      · rintro _ t w15 ⟨μ8,l133,a131,c132,i135,i136,l139,v137,cs138,rfl,h,le157,hS,m158,m159⟩
        unfold p_fixed_j2 at h
        refine nrm (mK20 (mK3 (mO7 mz))) ?_
        refine (fun h=>bn (xn h)) ?_
        refine creg ?_
        replace h:=bI h; obtain ⟨i160,g161,h⟩:=h
        refine wl (s_addc (et (k10 d5)) ec g161 (dt (q30 p0)) ?_)
        refine wl (s_move (et (k30 d0)) (dt (q10 p5)) ?_)
        refine wnil ?_
        refine xl ?_
        exact ⟨n_1,_,_,rfl,(aK8 (aO1 (aK6 (aI (aO10 (aO5 aZ)))))),⟨_,i160,l133,a131,c132,i135,i136,l139,v137,cs138,rfl,h,(le108.t (le129.t le157)),hS,m158,m159⟩,Nat.lt_succ_self _⟩
  · replace h:=iF h111 h
    refine cexit ?_
    refine (fun h=>xe (xe (bh h))) ?_
    refine xn ?_
    refine cseq ?_
    refine creg ?_
    refine wl (s_move (et d0) (dt (q30 p1)) ?_)
    refine wl (s_bsl Tryd.underlying81 ti9 (Parts.s ec rfl Parts.z) rfl rfl hS ?_); clear hS; intro b162 w16 hb163 hS; refine pu (dt (q30 p2)) ?_
    obtain ⟨μ9,le165,m164,hS⟩:=Sep.frzBlk (l:=([[41]]:List (List UInt8))) hS (Rw.one (α:=List UInt8) rfl) (Nat.le_of_ble_eq_true rfl)
    rcases bTe h with ⟨e_,g167,rfl⟩ | ⟨r166,g167,h⟩
    · refine wl (s_callte isfn25 ef (e1 (et (k30 d1)) (e1 (et (k30 d2)) e0)) (p_need_w (hg.t (le21.t (le24.t (le108.t le165)))) (m109.up le165) m164 g167 hS) ?_)
      rintro w_ ⟨μ_,v0_,v1_,i_,le_,hS⟩
      replace hS:=Sep.dropL (l:=[_,_,_]) hS
      exact thN (P:=Tryd.prog) (fn:=Tryd.f77) ⟨_,_,_,_,((le21.t (le24.t (le108.t le165))).t le_),hS⟩
    refine wl (s_callv isfn25 ef (e1 (et (k30 d1)) (e1 (et (k30 d2)) e0)) ((p_need_w (hg.t (le21.t (le24.t (le108.t le165)))) (m109.up le165) m164 g167 hS).ok) ?_)
    rintro _ w17 ⟨μ10,a169,c170,rfl,le168,hS,m171⟩
    refine pu (dt (q30 p3)) ?_
    refine wnil ?_
    refine xn ?_
    refine cseq ?_
    refine creg ?_
    refine wl (s_loads ti39 (et d7) (hS.blk d2).cells rfl (dt (q30 p4)) ?_)
    refine wl (s_storeA ti39 (et d6) (et (k30 d4)) rfl (cv_s rfl (cv_s rfl (cv_s rfl (cv_s ((hS.get d3).cellV) cv_z)))) hS d1 rfl p1 dn ?_)
    clear hS; intro w18 hS
    refine wnil ?_
    refine xn ?_
    refine cret ?_
    replace hS:=hS.bg (Bg.s (Bg.s (Bg.s Bg.z)))
    obtain ⟨μ11,a172,c173,e176,le175,m174,hq_⟩:=Sep.frzRow hS (m110.up (le165.t le168)) rfl; clear hS
    subst e176; have hS:=hq_; clear hq_
    obtain rfl:=oI h
    refine okT ?_
    refine retN rfl (RVs.s (.a d6 ti39 (hS.blk d1).cells rfl) RVs.z) ?_
    replace hS:=hS.drop (Rm.s Rm.z)
    replace hS:=hS.drop (Rm.s Rm.z)
    exact ⟨_,a172,c173,a169,c170,rfl,(le21.t (le24.t (le108.t (le165.t (le168.t le175))))),hS,m174,(m171.up le175)⟩
theorem ParE_sound:∀ n,ParESound (ParE_run n)
  | 0=>⟨(by intros; rename_i h _; cases h),(by intros; rename_i h _; cases h),(by intros; rename_i h _; cases h),(by intros; rename_i h _; cases h),(by intros; rename_i h _; cases h),(by intros; rename_i h _; cases h)⟩
  | n+1=>⟨p_expr_w (ParE_sound n),p_level_w (ParE_sound n),p_unary_w (ParE_sound n),p_primary_w (ParE_sound n),p_args_w (ParE_sound n),p_fixed_w (ParE_sound n)⟩
structure ParSSound (sf:ParS):Prop where
  p_body:∀ {μ0:M} {w0 w:World} {rsF:List Res} (hg:Le Gm μ0) {b1:Nat} {left_2:List TToken} {a3:Option Addr} {c4:Nat} {end_6:Int} {deep_7:Int} {r:Except TFault (List TStat×List TToken×Int×Int)} (m5:Sl μ0 a3 c4 left_2) (h:sf.p_body left_2 end_6 deep_7=some r) (hS:Sq μ0 w0 w (.blk b1 49 [.slice a3 left_2.length c4,.int .i64 end_6,.int .i64 deep_7]::rsF)),CallsT Tryd.prog 27 [.pointer (some ⟨b1,0,none⟩)] w Voops r (fun x v w'=>∃ (μ':M) (a8:Option Addr) (c9:Nat) (a11:Option Addr) (c12:Nat),v=.slice a8 x.1.length c9∧Le μ0 μ'∧Sq μ' w0 w' (.blk b1 49 [.slice a11 x.2.1.length c12,.int .i64 x.2.2.1,.int .i64 x.2.2.2]::rsF)∧Sl μ' a8 c9 x.1∧Sl μ' a11 c12 x.2.1) (EP μ0 w0 b1 49 rsF)
  p_stat:∀ {μ0:M} {w0 w:World} {rsF:List Res} (hg:Le Gm μ0) {b1:Nat} {left_2:List TToken} {a3:Option Addr} {c4:Nat} {end_6:Int} {deep_7:Int} {r:Except TFault (TStat×List TToken×Int×Int)} (m5:Sl μ0 a3 c4 left_2) (h:sf.p_stat left_2 end_6 deep_7=some r) (hS:Sq μ0 w0 w (.blk b1 49 [.slice a3 left_2.length c4,.int .i64 end_6,.int .i64 deep_7]::rsF)),CallsT Tryd.prog 37 [.pointer (some ⟨b1,0,none⟩)] w Voops r (fun x v w'=>∃ (μ':M) (a8:Option Addr) (c9:Nat) (a11:Option Addr) (c12:Nat) (a14:Option Addr) (c15:Nat) (a17:Option Addr) (c18:Nat),v=.agg ⟨[.int .i64 x.1.Kind,S x.1.Name,.int .i64 x.1.X.Kind,.int .i64 x.1.X.N,S x.1.X.Name,.slice a8 x.1.X.Kids.length c9,.slice a11 x.1.Body.length c12,.slice a14 x.1.Else.length c15]⟩∧Le μ0 μ'∧Sq μ' w0 w' (.blk b1 49 [.slice a17 x.2.1.length c18,.int .i64 x.2.2.1,.int .i64 x.2.2.2]::rsF)∧Sl μ' a8 c9 x.1.X.Kids∧Sl μ' a11 c12 x.1.Body∧Sl μ' a14 c15 x.1.Else∧Sl μ' a17 c18 x.2.1) (EP μ0 w0 b1 49 rsF)
theorem p_body_w {self:ParS} (IH:ParSSound self) {fu:Nat} {μ0:M} {w0 w:World} {rsF:List Res} (hg:Le Gm μ0) {b1:Nat} {left_2:List TToken} {a3:Option Addr} {c4:Nat} {end_6:Int} {deep_7:Int} {r:Except TFault (List TStat×List TToken×Int×Int)} (m5:Sl μ0 a3 c4 left_2) (h:p_body fu self left_2 end_6 deep_7=some r) (hS:Sq μ0 w0 w (.blk b1 49 [.slice a3 left_2.length c4,.int .i64 end_6,.int .i64 deep_7]::rsF)):CallsT Tryd.prog 27 [.pointer (some ⟨b1,0,none⟩)] w Voops r (fun x v w'=>∃ (μ':M) (a8:Option Addr) (c9:Nat) (a11:Option Addr) (c12:Nat),v=.slice a8 x.1.length c9∧Le μ0 μ'∧Sq μ' w0 w' (.blk b1 49 [.slice a11 x.2.1.length c12,.int .i64 x.2.2.1,.int .i64 x.2.2.2]::rsF)∧Sl μ' a8 c9 x.1∧Sl μ' a11 c12 x.2.1) (EP μ0 w0 b1 49 rsF):=by
  unfold p_body at h
  refine enterFT Tryd.func27 rfl (frm:=[_,_,_,_,_,_,_,_,_,_,_,_,_,_,_,_,_,_,_,_,_,_,_,_,_]) rfl ?_
  refine cseq ?_
  refine creg ?_
  refine wl (s_assign ec (dt p2) ?_)
  refine wnil ?_
  refine xn ?_
  refine cseq ?_
  refine creg ?_
  refine wl (s_move (et d0) (dt p4) ?_)
  rcases bTe h with ⟨e_,g15,rfl⟩ | ⟨r14,g15,h⟩
  · refine wl (s_callte isfn36 ef (e1 (et d4) e0) (p_into_w hg m5 g15 hS) ?_)
    rintro w_ ⟨μ_,v0_,v1_,i_,le_,hS⟩
    exact thND (P:=Tryd.prog) (fn:=Tryd.f27) ⟨_,_,_,_,le_,hS⟩
  refine wl (s_callv isfn36 ef (e1 (et d4) e0) ((p_into_w hg m5 g15 hS).ok) ?_)
  rintro _ w1 ⟨μ1,b17,a18,c19,rfl,le16,hS,m20⟩
  refine pu (dt p5) ?_
  refine wl (s_defer (et d5) e0 dn ?_)
  refine wnil ?_
  refine xn ?_
  refine cseq ?_
  refine creg ?_
  refine wl (s_assign ec (dt p3) ?_)
  refine wnil ?_
  refine xn ?_
  refine cseq ?_
  refine cseq ?_
  refine creg ?_
  refine wl (s_move (et d0) (dt p6) ?_)
  refine wl (s_bsl Tryd.underlying81 ti9 (Parts.s ec rfl Parts.z) rfl rfl hS ?_); clear hS; intro b21 w2 hb22 hS; refine pu (dt p7) ?_
  obtain ⟨μ2,le24,m23,hS⟩:=Sep.frzBlk (l:=([[123]]:List (List UInt8))) hS (Rw.one (α:=List UInt8) rfl) (Nat.le_of_ble_eq_true rfl)
  replace hS:=hS.bg (Bg.s Bg.z)
  rcases bTe h with ⟨e_,g26,rfl⟩ | ⟨r25,g26,h⟩
  · refine wl (s_callte isfn25 ef (e1 (et d6) (e1 (et d7) e0)) (p_need_w (hg.t (le16.t le24)) (m20.up le24) m23 g26 hS) ?_)
    rintro w_ ⟨μ_,v0_,v1_,i_,le_,hS⟩
    replace hS:=hS.bg (Bg.s Bg.z)
    refine thD isfn49 (p_outE hS) ?_; rintro _ w_ ⟨j_,hS⟩
    replace hS:=hS.drop Rm.z
    exact thND (P:=Tryd.prog) (fn:=Tryd.f27) ⟨_,_,_,_,((le16.t le24).t le_),hS⟩
  refine wl (s_callv isfn25 ef (e1 (et d6) (e1 (et d7) e0)) ((p_need_w (hg.t (le16.t le24)) (m20.up le24) m23 g26 hS).ok) ?_)
  rintro _ w3 ⟨μ3,a28,c29,rfl,le27,hS,m30⟩
  refine pu (dt p8) ?_
  refine wnil ?_
  refine xn ?_
  refine cblock ?_
  replace hS:=hS.nilRow 41 (Mo.sz TStat)
  replace hS:=hS.bg (Bg.s (Bg.s Bg.z))
  replace hS:=hS.bg (Bg.s (Bg.s Bg.z))
  refine cloopE (rg 9 15) (by decide) (fun n m w=>∃ (μx:M) (l65:List TToken) (a63:Option Addr) (c64:Nat) (i67:Int) (i68:Int) (l71:List TStat) (v69:Value) (cs70:List Value),m=(yK3 (.i (v69)::(yK5 (yO10 9 (yO5 19 [])))))∧p_body_l1 self n l65 i67 i68 l71=some r∧Le μ3 μx∧Sq μx w0 w (.blk b1 49 [.slice a63 l65.length c64,.int .i64 i67,.int .i64 i68]::.blk b17 47 [.pointer (some ⟨b1,0,none⟩)]::.row v69 41 8 l71.length cs70::rsF)∧Sl μx a63 c64 l65∧Rw μx cs70 l71) (by rintro _ _ _ ⟨_,_,_,_,_,_,_,_,_,rfl,_⟩; rfl) _ _ (aK3 (aI (aK5 (aO10 (aO5 aZ))))) ⟨_,r25.1,a28,c29,r25.2.1,r25.2.2,[],(.slice none 0 0),[],rfl,h,Le.r,hS,m30,Rw.nil⟩ ?_
  rintro n_1 _ t w4 ⟨μ4,l65,a63,c64,i67,i68,l71,v69,cs70,rfl,h,le104,hS,m105,m106⟩
  cases n_1 with
  | zero=>cases h
  | succ n_1 =>
  unfold p_body_l1 at h
  refine cnrm (mK3 (mi (mK5 (mO10 (mO5 mz))))) ?_
  refine cseq ?_
  refine cseq ?_
  refine creg ?_
  refine wl (s_move (et d0) (dt p9) ?_)
  replace h:=bI h; obtain ⟨r107,g108,h⟩:=h
  refine wl (s_callv isfn21 ef (e1 (et d9) (e1 ec e0)) (p_is_w (hg.t (le16.t (le24.t (le27.t le104)))) m105 g108 hS) ?_)
  rintro _ w5 ⟨μ5,a110,c111,rfl,le109,hS,m112⟩
  refine pu (dt (q10 p0)) ?_
  refine wl (s_not (et (k10 d0)) (dt (q10 p1)) ?_)
  refine wnil ?_
  refine xn ?_
  refine cifnb (et (k10 d1)) (fun h113=>?_) (fun h113=>?_)
  · replace h:=iF h113 h
    refine cskip ?_
    refine xn ?_
    refine cblock ?_
    refine cseq ?_
    refine cseq ?_
    refine creg ?_
    refine wl (s_move (et d3) (dt (q10 p2)) ?_)
    refine wl (s_lenv Tryd.underlying34 (et (k10 d2)) (hS.get d2).isSl (dt (q10 p3)) ?_)
    refine wl (s_eqi (et (k10 d3)) ec (dt (q10 p4)) ?_)
    refine wnil ?_
    refine xn ?_
    refine cifd (et (k10 d4)) (fun h114=>?_) (fun h114=>?_)
    · replace h:=iT h114 h
      refine creg ?_
      refine wl (s_move (et d0) (dt (q10 p5)) ?_)
      refine wl (s_move (et d0) (dt (q10 p6)) ?_)
      replace h:=bI h; obtain ⟨r115,g116,h⟩:=h
      refine wl (s_callv isfn10 ef (e1 (et (k10 d6)) e0) (p_at_w (hg.t (le16.t (le24.t (le27.t (le104.t le109))))) m112 g116 hS) ?_)
      rintro _ w6 ⟨μ6,rfl,le117,hS⟩
      refine pu (dt (q10 p7)) ?_
      obtain rfl:=oI h
      refine wl (s_callte isfn9 ef (e1 (et (k10 d5)) (e1 ec (e1 (et (k10 d7)) e0))) (p_fail_w (R:=fun (_:Unit) _ _=>True) hS) ?_)
      rintro w_ ⟨μ_,v0_,v1_,i_,le_,hS⟩
      replace hS:=hS.bg (Bg.s Bg.z)
      refine thD isfn49 (p_outE hS) ?_; rintro _ w_ ⟨j_,hS⟩
      replace hS:=hS.drop Rm.z
      replace hS:=Sep.dropL (l:=[_]) hS
      exact thND (P:=Tryd.prog) (fn:=Tryd.f27) ⟨_,_,_,_,((le16.t (le24.t (le27.t (le104.t (le109.t le117))))).t le_),hS⟩
    · replace h:=iF h114 h
      refine cskip ?_
      refine xn ?_
      refine creg ?_
      refine wl (s_move (et d3) (dt (q10 p9)) ?_)
      refine wl (s_move (et d0) (dt (q20 p0)) ?_)
      rcases bTe h with ⟨e_,g119,rfl⟩ | ⟨r118,g119,h⟩
      · refine wl (s_callte isfn37 ef (e1 (et (k20 d0)) e0) (IH.p_stat (hg.t (le16.t (le24.t (le27.t (le104.t le109))))) m112 g119 hS) ?_)
        rintro w_ ⟨μ_,v0_,v1_,i_,le_,hS⟩
        replace hS:=hS.bg (Bg.s Bg.z)
        refine thD isfn49 (p_outE hS) ?_; rintro _ w_ ⟨j_,hS⟩
        replace hS:=hS.drop Rm.z
        replace hS:=Sep.dropL (l:=[_]) hS
        exact thND (P:=Tryd.prog) (fn:=Tryd.f27) ⟨_,_,_,_,((le16.t (le24.t (le27.t (le104.t le109)))).t le_),hS⟩
      refine wl (s_callv isfn37 ef (e1 (et (k20 d0)) e0) ((IH.p_stat (hg.t (le16.t (le24.t (le27.t (le104.t le109))))) m112 g119 hS).ok) ?_)
      rintro _ w7 ⟨μ7,a121,c122,a124,c125,a127,c128,a130,c131,rfl,le120,hS,m123,m126,m129,m132⟩
      refine pu (dt (q20 p1)) ?_
      refine wl (s_bsl1 Tryd.underlying34 ti41 rfl (et (k20 d1)) rfl hS ?_); clear hS; intro b133 w8 hb134 hS; refine pu (dt (q20 p2)) ?_
      replace h:=bI h; obtain ⟨l137,g138,h⟩:=h
      have m139:Rw μ7 [.int .i64 r118.1.Kind,S r118.1.Name,.int .i64 r118.1.X.Kind,.int .i64 r118.1.X.N,S r118.1.X.Name,.slice a121 r118.1.X.Kids.length c122,.slice a124 r118.1.Body.length c125,.slice a127 r118.1.Else.length c128] [r118.1]:=(Rw.one (α:=TStat) (TStat.i ⟨a121,c122,a124,c125,a127,c128,rfl,m123,m126,m129⟩))
      have m136:=Rw.app (m106.up (le109.t le120)) m139 g138
      refine wl (s_app1 Tryd.underlying34 ti41 rfl (et (k10 d9)) (et (k20 d2)) hS d3 (hS.blk d0).cells m139 rfl g138 (by decide) ?_); clear hS; intro v135 w9 rs_ hp_ hS; cases (show _=rs_ from hp_)
      replace hS:=Sep.reput hS p3; refine pu (dt (q20 p3)) ?_
      replace hS:=hS.drop Rm.z
      refine wl (s_assign (et (k20 d3)) (dt p3) ?_)
      refine wnil ?_
      refine (fun h=>bn (xl h)) ?_
      exact ⟨n_1,_,_,rfl,(aK3 (aI (aK5 (aO10 (aO5 aZ))))),⟨_,r118.2.1,a130,c131,r118.2.2.1,r118.2.2.2,l137,v135,(cs70++[.int .i64 r118.1.Kind,S r118.1.Name,.int .i64 r118.1.X.Kind,.int .i64 r118.1.X.N,S r118.1.X.Name,.slice a121 r118.1.X.Kids.length c122,.slice a124 r118.1.Body.length c125,.slice a127 r118.1.Else.length c128]),rfl,h,(le104.t (le109.t le120)),hS,m132,m136⟩,Nat.lt_succ_self _⟩
  · replace h:=iT h113 h
    refine cexit ?_
    refine (fun h=>xe (xe (bh h))) ?_
    refine xn ?_
    refine cseq ?_
    refine creg ?_
    refine wl (s_move (et d3) (dt (q20 p4)) ?_)
    refine wl (s_assign (et (k20 d4)) (dt p2) ?_)
    refine wnil ?_
    refine xn ?_
    refine cret ?_
    replace h:=bI h; obtain ⟨r140,g141,h⟩:=h
    replace hS:=hS.bg (Bg.s Bg.z)
    refine retDT isfn49 (p_out_w (hg.t (le16.t (le24.t (le27.t (le104.t le109))))) m112 g141 hS) ?_
    rintro _ w10 ⟨μ8,a143,c144,rfl,le142,hS,m145⟩
    replace hS:=hS.bg (Bg.s (Bg.s Bg.z))
    obtain ⟨μ9,a146,c147,e150,le149,m148,hq_⟩:=Sep.frzRow hS (m106.up (le109.t le142)) rfl; clear hS
    subst e150; have hS:=hq_; clear hq_
    obtain rfl:=oI h
    refine okTD ?_
    refine retDN rfl (RVs.s (.t d2) RVs.z) ?_
    replace hS:=hS.drop Rm.z
    exact ⟨_,a146,c147,a143,c144,rfl,(le16.t (le24.t (le27.t (le104.t (le109.t (le142.t le149)))))),hS,m148,(m145.up le149)⟩
theorem p_stat_w {self:ParS} (IH:ParSSound self) {fu:Nat} {μ0:M} {w0 w:World} {rsF:List Res} (hg:Le Gm μ0) {b1:Nat} {left_2:List TToken} {a3:Option Addr} {c4:Nat} {end_6:Int} {deep_7:Int} {r:Except TFault (TStat×List TToken×Int×Int)} (m5:Sl μ0 a3 c4 left_2) (h:p_stat fu self left_2 end_6 deep_7=some r) (hS:Sq μ0 w0 w (.blk b1 49 [.slice a3 left_2.length c4,.int .i64 end_6,.int .i64 deep_7]::rsF)):CallsT Tryd.prog 37 [.pointer (some ⟨b1,0,none⟩)] w Voops r (fun x v w'=>∃ (μ':M) (a8:Option Addr) (c9:Nat) (a11:Option Addr) (c12:Nat) (a14:Option Addr) (c15:Nat) (a17:Option Addr) (c18:Nat),v=.agg ⟨[.int .i64 x.1.Kind,S x.1.Name,.int .i64 x.1.X.Kind,.int .i64 x.1.X.N,S x.1.X.Name,.slice a8 x.1.X.Kids.length c9,.slice a11 x.1.Body.length c12,.slice a14 x.1.Else.length c15]⟩∧Le μ0 μ'∧Sq μ' w0 w' (.blk b1 49 [.slice a17 x.2.1.length c18,.int .i64 x.2.2.1,.int .i64 x.2.2.2]::rsF)∧Sl μ' a8 c9 x.1.X.Kids∧Sl μ' a11 c12 x.1.Body∧Sl μ' a14 c15 x.1.Else∧Sl μ' a17 c18 x.2.1) (EP μ0 w0 b1 49 rsF):=by
  unfold p_stat at h
  refine enterT Tryd.func37 rfl (frm:=[_,_,_,_,_,_,_,_,_,_,_,_,_,_,_,_,_,_,_,_,_,_,_,_,_,_,_,_,_,_,_,_,_,_,_,_,_,_,_,_,_,_,_,_,_,_,_,_,_,_,_,_,_,_,_,_,_,_,_,_,_,_,_,_,_,_,_,_,_,_,_,_,_,_,_,_,_,_,_,_,_,_]) rfl ?_
  refine cseq ?_
  refine creg ?_
  refine wl (s_alloc ti41 hS ?_); clear hS; intro b20 w1 hb21 hS; refine pu (dt p2) ?_
  refine wnil ?_
  refine xn ?_
  refine cseq ?_
  refine creg ?_
  refine wl (s_build ti41 pl41 Fl.z (dt p4) ?_)
  refine wl (s_alloc ti41 hS ?_); clear hS; intro b22 w2 hb23 hS; refine pu (dt p3) ?_
  refine wl (s_storeA ti41 (et d3) (et d4) rfl rfl hS d0 rfl p0 dn ?_)
  clear hS; intro w3 hS
  refine wnil ?_
  refine xn ?_
  refine cseq ?_
  refine ccutE (rg 5 73) (by decide +kernel) (fun m w=>∃ (μx:M) (l26:List TToken) (a24:Option Addr) (c25:Nat) (i28:Int) (i29:Int) (i30:Int) (s31:List UInt8) (i33:Int) (i34:Int) (s35:List UInt8) (l38:List TExpr) (a36:Option Addr) (c37:Nat),m=(yK5 (yO50 5 (yO20 55 (yO3 75 []))))∧p_stat_j1 l26 i28 i29 i30 s31 i33 i34 s35 l38=some r∧Le μ0 μx∧Sq μx w0 w (.blk b1 49 [.slice a24 l26.length c25,.int .i64 i28,.int .i64 i29]::.blk b20 41 [.int .i64 0,S [],.int .i64 0,.int .i64 0,S [],.slice none 0 0,.slice none 0 0,.slice none 0 0]::.blk b22 41 [.int .i64 i30,S s31,.int .i64 i33,.int .i64 i34,S s35,.slice a36 l38.length c37,.slice none 0 0,.slice none 0 0]::rsF)∧Sl μx a24 c25 l26∧Sl μx a36 c37 l38) (by rintro _ _ ⟨_,_,_,_,_,_,_,_,_,_,_,_,_,_,rfl,_⟩; rfl) ?_ ?_
  · refine cblock ?_
    refine cseq ?_
    refine creg ?_
    refine wl (s_move (et d0) (dt (q10 p5)) ?_)
    replace h:=bI h; obtain ⟨r40,g41,h⟩:=h
    replace hS:=hS.bg (Bg.s (Bg.s Bg.z))
    refine wl (s_callv isfn21 ef (e1 (et (k10 d5)) (e1 ec e0)) (p_is_w hg m5 g41 hS) ?_)
    rintro _ w4 ⟨μ1,a43,c44,rfl,le42,hS,m45⟩
    refine pu (dt (q10 p6)) ?_
    refine wl (s_assign (et (k10 d6)) (dt (q10 p4)) ?_)
    refine wnil ?_
    refine xn ?_
    refine cifb (et (k10 d4)) (fun h46=>?_) (fun h46=>?_)
    · replace h:=iT h46 h
      refine cseq ?_
      refine creg ?_
      refine wl (s_move (et d0) (dt (q10 p7)) ?_)
      rcases bTe h with ⟨e_,g48,rfl⟩ | ⟨r47,g48,h⟩
      · refine wl (s_callte isfn50 ef (e1 (et (k10 d7)) e0) ((ParE_sound fu).p_expr (hg.t le42) m45 g48 hS) ?_)
        rintro w_ ⟨μ_,v0_,v1_,i_,le_,hS⟩
        replace hS:=Sep.dropL (l:=[_,_]) hS
        exact thN (P:=Tryd.prog) (fn:=Tryd.f37) ⟨_,_,_,_,(le42.t le_),hS⟩
      refine wl (s_callv isfn50 ef (e1 (et (k10 d7)) e0) (((ParE_sound fu).p_expr (hg.t le42) m45 g48 hS).ok) ?_)
      rintro _ w5 ⟨μ2,a50,c51,a53,c54,rfl,le49,hS,m52,m55⟩
      refine pu (dt (q10 p8)) ?_
      refine wl (s_move (et d0) (dt (q10 p9)) ?_)
      rcases bTe h with ⟨e_,g57,rfl⟩ | ⟨r56,g57,h⟩
      · refine wl (s_callte isfn27 ef (e1 (et (k10 d9)) e0) (IH.p_body (hg.t (le42.t le49)) m55 g57 hS) ?_)
        rintro w_ ⟨μ_,v0_,v1_,i_,le_,hS⟩
        replace hS:=Sep.dropL (l:=[_,_]) hS
        exact thN (P:=Tryd.prog) (fn:=Tryd.f37) ⟨_,_,_,_,((le42.t le49).t le_),hS⟩
      refine wl (s_callv isfn27 ef (e1 (et (k10 d9)) e0) ((IH.p_body (hg.t (le42.t le49)) m55 g57 hS).ok) ?_)
      rintro _ w6 ⟨μ3,a59,c60,a62,c63,rfl,le58,hS,m61,m64⟩
      refine pu (dt (q20 p0)) ?_
      refine wl (s_build ti41 pl41 (Fl.o rfl ec rfl rfl p0 (Fl.n rfl (et (k10 d8)) rfl rfl (Spl.s p2 (of_decide_eq_true rfl) (Spl.s p3 (of_decide_eq_true rfl) (Spl.s p4 (of_decide_eq_true rfl) (Spl.s p5 (of_decide_eq_true rfl) Spl.z)))) (Fl.o rfl (et (k20 d0)) rfl rfl p6 Fl.z))) (dt (q20 p1)) ?_)
      refine wl (s_storeA ti41 (et d3) (et (k20 d1)) rfl rfl hS d1 rfl p1 dn ?_)
      clear hS; intro w7 hS
      refine wnil ?_
      refine xn ?_
      refine cseq ?_
      refine cseq ?_
      refine creg ?_
      refine wl (s_move (et d0) (dt (q20 p2)) ?_)
      replace h:=bI h; obtain ⟨r65,g66,h⟩:=h
      refine wl (s_callv isfn21 ef (e1 (et (k20 d2)) (e1 ec e0)) (p_is_w (hg.t (le42.t (le49.t le58))) m64 g66 hS) ?_)
      rintro _ w8 ⟨μ4,a68,c69,rfl,le67,hS,m70⟩
      refine pu (dt (q20 p3)) ?_
      refine wnil ?_
      refine xn ?_
      refine ccutE (rg 24 3) (by decide) (fun m w=>∃ (μx:M) (l73:List TToken) (a71:Option Addr) (c72:Nat) (i75:Int) (i76:Int) (l79:List TStat) (a77:Option Addr) (c78:Nat),m=(yK20 (yK4 (yO3 24 [])))∧p_stat_j2 r47 r56 l73 i75 i76 l79=some r∧Le μ4 μx∧Sq μx w0 w (.blk b1 49 [.slice a71 l73.length c72,.int .i64 i75,.int .i64 i76]::.blk b20 41 [.int .i64 0,S [],.int .i64 0,.int .i64 0,S [],.slice none 0 0,.slice none 0 0,.slice none 0 0]::.blk b22 41 [.int .i64 3,S [],.int .i64 r47.1.Kind,.int .i64 r47.1.N,S r47.1.Name,.slice a50 r47.1.Kids.length c51,.slice a59 r56.1.length c60,.slice a77 l79.length c78]::rsF)∧Sl μx a71 c72 l73∧Sl μx a77 c78 l79) (by rintro _ _ ⟨_,_,_,_,_,_,_,_,_,rfl,_⟩; rfl) ?_ ?_
      · refine cifb (et (k20 d3)) (fun h81=>?_) (fun h81=>?_)
        · replace h:=iT h81 h
          refine creg ?_
          refine wl (s_move (et d0) (dt (q20 p4)) ?_)
          rcases bTe h with ⟨e_,g83,rfl⟩ | ⟨r82,g83,h⟩
          · refine wl (s_callte isfn27 ef (e1 (et (k20 d4)) e0) (IH.p_body (hg.t (le42.t (le49.t (le58.t le67)))) m70 g83 hS) ?_)
            rintro w_ ⟨μ_,v0_,v1_,i_,le_,hS⟩
            replace hS:=Sep.dropL (l:=[_,_]) hS
            exact thN (P:=Tryd.prog) (fn:=Tryd.f37) ⟨_,_,_,_,((le42.t (le49.t (le58.t le67))).t le_),hS⟩
          refine wl (s_callv isfn27 ef (e1 (et (k20 d4)) e0) ((IH.p_body (hg.t (le42.t (le49.t (le58.t le67)))) m70 g83 hS).ok) ?_)
          rintro _ w9 ⟨μ5,a85,c86,a88,c89,rfl,le84,hS,m87,m90⟩
          refine pu (dt (q20 p5)) ?_
          refine wl (s_fa fa41_4 (et d3) rfl (dt (q20 p6)) ?_)
          refine wl (s_store1 ti34 (et (k20 d6)) (et (k20 d5)) rfl hS d1 p7 rfl p1 dn ?_)
          clear hS; intro w10 hS
          refine wnil ?_
          refine xl ?_
          replace hS:=hS.bg (Bg.s Bg.z)
          replace hS:=hS.bg (Bg.s (Bg.s Bg.z))
          replace hS:=hS.bg (Bg.s (Bg.s Bg.z))
          exact ⟨_,_,rfl,(aK20 (aK4 (aO3 aZ))),_,r82.2.1,a88,c89,r82.2.2.1,r82.2.2.2,r82.1,a85,c86,rfl,h,le84,hS,m90,m87⟩
        · replace h:=iF h81 h
          refine cskip ?_
          refine xl ?_
          replace hS:=hS.bg (Bg.s Bg.z)
          replace hS:=hS.bg (Bg.s (Bg.s Bg.z))
          replace hS:=hS.bg (Bg.s (Bg.s Bg.z))
          exact ⟨_,_,rfl,(aK20 (aK4 (aO3 aZ))),_,r65.2.1,a68,c69,r65.2.2.1,r65.2.2.2,[],none,0,rfl,h,Le.r,hS,m70,Sl.nil⟩
      · rintro _ t w11 ⟨μ6,l73,a71,c72,i75,i76,l79,a77,c78,rfl,h,le91,hS,m92,m93⟩
        unfold p_stat_j2 at h
        refine nrm (mK20 (mK4 (mO3 mz))) ?_
        refine xn ?_
        refine cseq ?_
        refine creg ?_
        refine wl (s_loads ti41 (et d3) (hS.blk d2).cells rfl (dt (q20 p7)) ?_)
        refine wl (s_storeA ti41 (et d2) (et (k20 d7)) rfl rfl hS d1 rfl p1 dn ?_)
        clear hS; intro w12 hS
        refine wnil ?_
        refine xn ?_
        refine cret ?_
        refine (fun h=>br (xr (xr h))) ?_
        obtain rfl:=oI h
        refine okT ?_
        refine retN rfl (RVs.s (.a d2 ti41 (hS.blk d1).cells rfl) RVs.z) ?_
        replace hS:=hS.drop (Rm.s Rm.z)
        replace hS:=hS.drop (Rm.s Rm.z)
        exact ⟨_,a50,c51,a59,c60,a77,c78,a71,c72,rfl,(le42.t (le49.t (le58.t (le67.t le91)))),hS,(m52.up (le58.t (le67.t le91))),(m61.up (le67.t le91)),m93,m92⟩
    · replace h:=iF h46 h
      refine cseq ?_
      refine creg ?_
      refine wl (s_move (et d0) (dt (q20 p9)) ?_)
      replace h:=bI h; obtain ⟨r94,g95,h⟩:=h
      refine wl (s_callv isfn21 ef (e1 (et (k20 d9)) (e1 ec e0)) (p_is_w (hg.t le42) m45 g95 hS) ?_)
      rintro _ w13 ⟨μ7,a97,c98,rfl,le96,hS,m99⟩
      refine pu (dt (q30 p0)) ?_
      refine wl (s_assign (et (k30 d0)) (dt (q20 p8)) ?_)
      refine wnil ?_
      refine xn ?_
      refine cifb (et (k20 d8)) (fun h100=>?_) (fun h100=>?_)
      · replace h:=iT h100 h
        refine cseq ?_
        refine creg ?_
        refine wl (s_move (et d0) (dt (q30 p1)) ?_)
        rcases bTe h with ⟨e_,g102,rfl⟩ | ⟨r101,g102,h⟩
        · refine wl (s_callte isfn50 ef (e1 (et (k30 d1)) e0) ((ParE_sound fu).p_expr (hg.t (le42.t le96)) m99 g102 hS) ?_)
          rintro w_ ⟨μ_,v0_,v1_,i_,le_,hS⟩
          replace hS:=Sep.dropL (l:=[_,_]) hS
          exact thN (P:=Tryd.prog) (fn:=Tryd.f37) ⟨_,_,_,_,((le42.t le96).t le_),hS⟩
        refine wl (s_callv isfn50 ef (e1 (et (k30 d1)) e0) (((ParE_sound fu).p_expr (hg.t (le42.t le96)) m99 g102 hS).ok) ?_)
        rintro _ w14 ⟨μ8,a104,c105,a107,c108,rfl,le103,hS,m106,m109⟩
        refine pu (dt (q30 p2)) ?_
        refine wl (s_move (et d0) (dt (q30 p3)) ?_)
        rcases bTe h with ⟨e_,g111,rfl⟩ | ⟨r110,g111,h⟩
        · refine wl (s_callte isfn27 ef (e1 (et (k30 d3)) e0) (IH.p_body (hg.t (le42.t (le96.t le103))) m109 g111 hS) ?_)
          rintro w_ ⟨μ_,v0_,v1_,i_,le_,hS⟩
          replace hS:=Sep.dropL (l:=[_,_]) hS
          exact thN (P:=Tryd.prog) (fn:=Tryd.f37) ⟨_,_,_,_,((le42.t (le96.t le103)).t le_),hS⟩
        refine wl (s_callv isfn27 ef (e1 (et (k30 d3)) e0) ((IH.p_body (hg.t (le42.t (le96.t le103))) m109 g111 hS).ok) ?_)
        rintro _ w15 ⟨μ9,a113,c114,a116,c117,rfl,le112,hS,m115,m118⟩
        refine pu (dt (q30 p4)) ?_
        refine wl (s_build ti41 pl41 (Fl.o rfl ec rfl rfl p0 (Fl.n rfl (et (k30 d2)) rfl rfl (Spl.s p2 (of_decide_eq_true rfl) (Spl.s p3 (of_decide_eq_true rfl) (Spl.s p4 (of_decide_eq_true rfl) (Spl.s p5 (of_decide_eq_true rfl) Spl.z)))) (Fl.o rfl (et (k30 d4)) rfl rfl p6 Fl.z))) (dt (q30 p5)) ?_)
        refine wl (s_storeA ti41 (et d2) (et (k30 d5)) rfl rfl hS d2 rfl p2 dn ?_)
        clear hS; intro w16 hS
        refine wnil ?_
        refine xn ?_
        refine cret ?_
        refine (fun h=>br (xr (xr h))) ?_
        obtain rfl:=oI h
        refine okT ?_
        refine retN rfl (RVs.s (.a d2 ti41 (hS.blk d2).cells rfl) RVs.z) ?_
        replace hS:=hS.drop (Rm.s Rm.z)
        replace hS:=hS.drop (Rm.s Rm.z)
        exact ⟨_,a104,c105,a113,c114,none,0,a116,c117,rfl,(le42.t (le96.t (le103.t le112))),hS,(m106.up le112),m115,Sl.nil,m118⟩
      · replace h:=iF h100 h
        refine cseq ?_
        refine creg ?_
        refine wl (s_move (et d0) (dt (q30 p7)) ?_)
        replace h:=bI h; obtain ⟨r119,g120,h⟩:=h
        refine wl (s_callv isfn21 ef (e1 (et (k30 d7)) (e1 ec e0)) (p_is_w (hg.t (le42.t le96)) m99 g120 hS) ?_)
        rintro _ w17 ⟨μ10,a122,c123,rfl,le121,hS,m124⟩
        refine pu (dt (q30 p8)) ?_
        refine wl (s_assign (et (k30 d8)) (dt (q30 p6)) ?_)
        refine wnil ?_
        refine xn ?_
        refine cifb (et (k30 d6)) (fun h125=>?_) (fun h125=>?_)
        · replace h:=iT h125 h
          refine cseq ?_
          refine creg ?_
          refine wl (s_move (et d0) (dt (q30 p9)) ?_)
          rcases bTe h with ⟨e_,g127,rfl⟩ | ⟨r126,g127,h⟩
          · refine wl (s_callte isfn22 ef (e1 (et (k30 d9)) e0) (p_name_w (hg.t (le42.t (le96.t le121))) m124 g127 hS) ?_)
            rintro w_ ⟨μ_,v0_,v1_,i_,le_,hS⟩
            replace hS:=Sep.dropL (l:=[_,_]) hS
            exact thN (P:=Tryd.prog) (fn:=Tryd.f37) ⟨_,_,_,_,((le42.t (le96.t le121)).t le_),hS⟩
          refine wl (s_callv isfn22 ef (e1 (et (k30 d9)) e0) ((p_name_w (hg.t (le42.t (le96.t le121))) m124 g127 hS).ok) ?_)
          rintro _ w18 ⟨μ11,a129,c130,rfl,le128,hS,m131⟩
          refine pu (dt (q40 p0)) ?_
          refine wl (s_build ti41 pl41 (Fl.o rfl ec rfl rfl p0 (Fl.o rfl (et (k40 d0)) rfl rfl p1 Fl.z)) (dt (q40 p1)) ?_)
          refine wl (s_storeA ti41 (et d3) (et (k40 d1)) rfl rfl hS d1 rfl p1 dn ?_)
          clear hS; intro w19 hS
          refine wnil ?_
          refine xn ?_
          refine cseq ?_
          refine creg ?_
          refine wl (s_move (et d0) (dt (q40 p2)) ?_)
          refine wl (s_bsl Tryd.underlying81 ti9 (Parts.s ec rfl Parts.z) rfl rfl hS ?_); clear hS; intro b132 w20 hb133 hS; refine pu (dt (q40 p3)) ?_
          obtain ⟨μ12,le135,m134,hS⟩:=Sep.frzBlk (l:=([[61]]:List (List UInt8))) hS (Rw.one (α:=List UInt8) rfl) (Nat.le_of_ble_eq_true rfl)
          rcases bTe h with ⟨e_,g137,rfl⟩ | ⟨r136,g137,h⟩
          · refine wl (s_callte isfn25 ef (e1 (et (k40 d2)) (e1 (et (k40 d3)) e0)) (p_need_w (hg.t (le42.t (le96.t (le121.t (le128.t le135))))) (m131.up le135) m134 g137 hS) ?_)
            rintro w_ ⟨μ_,v0_,v1_,i_,le_,hS⟩
            replace hS:=Sep.dropL (l:=[_,_]) hS
            exact thN (P:=Tryd.prog) (fn:=Tryd.f37) ⟨_,_,_,_,((le42.t (le96.t (le121.t (le128.t le135)))).t le_),hS⟩
          refine wl (s_callv isfn25 ef (e1 (et (k40 d2)) (e1 (et (k40 d3)) e0)) ((p_need_w (hg.t (le42.t (le96.t (le121.t (le128.t le135))))) (m131.up le135) m134 g137 hS).ok) ?_)
          rintro _ w21 ⟨μ13,a139,c140,rfl,le138,hS,m141⟩
          refine pu (dt (q40 p4)) ?_
          refine wnil ?_
          refine xn ?_
          refine creg ?_
          refine wl (s_move (et d0) (dt (q40 p5)) ?_)
          rcases bTe h with ⟨e_,g143,rfl⟩ | ⟨r142,g143,h⟩
          · refine wl (s_callte isfn50 ef (e1 (et (k40 d5)) e0) ((ParE_sound fu).p_expr (hg.t (le42.t (le96.t (le121.t (le128.t (le135.t le138)))))) m141 g143 hS) ?_)
            rintro w_ ⟨μ_,v0_,v1_,i_,le_,hS⟩
            replace hS:=Sep.dropL (l:=[_,_]) hS
            exact thN (P:=Tryd.prog) (fn:=Tryd.f37) ⟨_,_,_,_,((le42.t (le96.t (le121.t (le128.t (le135.t le138))))).t le_),hS⟩
          refine wl (s_callv isfn50 ef (e1 (et (k40 d5)) e0) (((ParE_sound fu).p_expr (hg.t (le42.t (le96.t (le121.t (le128.t (le135.t le138)))))) m141 g143 hS).ok) ?_)
          rintro _ w22 ⟨μ14,a145,c146,a148,c149,rfl,le144,hS,m147,m150⟩
          refine pu (dt (q40 p6)) ?_
          refine wl (s_fa fa41_2 (et d3) rfl (dt (q40 p7)) ?_)
          refine wl (s_store ti39 (et (k40 d7)) (et (k40 d6)) rfl rfl rfl hS d1 (Spl.s p2 (of_decide_eq_true rfl) (Spl.s p3 (of_decide_eq_true rfl) (Spl.s p4 (of_decide_eq_true rfl) (Spl.s p5 (of_decide_eq_true rfl) Spl.z)))) rfl p1 dn ?_)
          clear hS; intro w23 hS
          refine wnil ?_
          refine (fun h=>bn (xl h)) ?_
          replace hS:=hS.bg (Bg.s Bg.z)
          replace hS:=hS.bg (Bg.s (Bg.s Bg.z))
          replace hS:=hS.bg (Bg.s (Bg.s Bg.z))
          exact ⟨_,_,rfl,(aK5 (aO50 (aO20 (aO3 aZ)))),_,r142.2.1,a148,c149,r142.2.2.1,r142.2.2.2,1,r126.1,r142.1.Kind,r142.1.N,r142.1.Name,r142.1.Kids,a145,c146,rfl,h,(le42.t (le96.t (le121.t (le128.t (le135.t (le138.t le144)))))),hS,m150,m147⟩
        · replace h:=iF h125 h
          refine cseq ?_
          refine creg ?_
          refine wl (s_move (et d0) (dt (q40 p9)) ?_)
          replace h:=bI h; obtain ⟨r151,g152,h⟩:=h
          refine wl (s_callv isfn21 ef (e1 (et (k40 d9)) (e1 ec e0)) (p_is_w (hg.t (le42.t (le96.t le121))) m124 g152 hS) ?_)
          rintro _ w24 ⟨μ15,a154,c155,rfl,le153,hS,m156⟩
          refine pu (dt (q50 p0)) ?_
          refine wl (s_assign (et (k50 d0)) (dt (q40 p8)) ?_)
          refine wnil ?_
          refine xn ?_
          refine cifb (et (k40 d8)) (fun h157=>?_) (fun h157=>?_)
          · replace h:=iT h157 h
            refine creg ?_
            refine wl (s_move (et d0) (dt (q50 p1)) ?_)
            rcases bTe h with ⟨e_,g159,rfl⟩ | ⟨r158,g159,h⟩
            · refine wl (s_callte isfn50 ef (e1 (et (k50 d1)) e0) ((ParE_sound fu).p_expr (hg.t (le42.t (le96.t (le121.t le153)))) m156 g159 hS) ?_)
              rintro w_ ⟨μ_,v0_,v1_,i_,le_,hS⟩
              replace hS:=Sep.dropL (l:=[_,_]) hS
              exact thN (P:=Tryd.prog) (fn:=Tryd.f37) ⟨_,_,_,_,((le42.t (le96.t (le121.t le153))).t le_),hS⟩
            refine wl (s_callv isfn50 ef (e1 (et (k50 d1)) e0) (((ParE_sound fu).p_expr (hg.t (le42.t (le96.t (le121.t le153)))) m156 g159 hS).ok) ?_)
            rintro _ w25 ⟨μ16,a161,c162,a164,c165,rfl,le160,hS,m163,m166⟩
            refine pu (dt (q50 p2)) ?_
            refine wl (s_build ti41 pl41 (Fl.o rfl ec rfl rfl p0 (Fl.n rfl (et (k50 d2)) rfl rfl (Spl.s p2 (of_decide_eq_true rfl) (Spl.s p3 (of_decide_eq_true rfl) (Spl.s p4 (of_decide_eq_true rfl) (Spl.s p5 (of_decide_eq_true rfl) Spl.z)))) Fl.z)) (dt (q50 p3)) ?_)
            refine wl (s_storeA ti41 (et d3) (et (k50 d3)) rfl rfl hS d1 rfl p1 dn ?_)
            clear hS; intro w26 hS
            refine wnil ?_
            refine (fun h=>bn (xl h)) ?_
            replace hS:=hS.bg (Bg.s Bg.z)
            replace hS:=hS.bg (Bg.s (Bg.s Bg.z))
            replace hS:=hS.bg (Bg.s (Bg.s Bg.z))
            exact ⟨_,_,rfl,(aK5 (aO50 (aO20 (aO3 aZ)))),_,r158.2.1,a164,c165,r158.2.2.1,r158.2.2.2,5,[],r158.1.Kind,r158.1.N,r158.1.Name,r158.1.Kids,a161,c162,rfl,h,(le42.t (le96.t (le121.t (le153.t le160)))),hS,m166,m163⟩
          · replace h:=iF h157 h
            refine cseq ?_
            refine creg ?_
            refine wl (s_move (et d0) (dt (q50 p5)) ?_)
            replace h:=bI h; obtain ⟨r167,g168,h⟩:=h
            refine wl (s_callv isfn21 ef (e1 (et (k50 d5)) (e1 ec e0)) (p_is_w (hg.t (le42.t (le96.t (le121.t le153)))) m156 g168 hS) ?_)
            rintro _ w27 ⟨μ17,a170,c171,rfl,le169,hS,m172⟩
            refine pu (dt (q50 p6)) ?_
            refine wl (s_assign (et (k50 d6)) (dt (q50 p4)) ?_)
            refine wnil ?_
            refine xn ?_
            refine cifb (et (k50 d4)) (fun h173=>?_) (fun h173=>?_)
            · replace h:=iT h173 h
              refine creg ?_
              refine wl (s_fa fa41_0 (et d3) rfl (dt (q50 p7)) ?_)
              refine wl (s_store1 ti3 (et (k50 d7)) ec rfl hS d1 p0 rfl p1 dn ?_)
              clear hS; intro w28 hS
              refine wnil ?_
              refine (fun h=>bn (xl h)) ?_
              replace hS:=hS.bg (Bg.s Bg.z)
              replace hS:=hS.bg (Bg.s (Bg.s Bg.z))
              replace hS:=hS.bg (Bg.s (Bg.s Bg.z))
              exact ⟨_,_,rfl,(aK5 (aO50 (aO20 (aO3 aZ)))),_,r167.2.1,a170,c171,r167.2.2.1,r167.2.2.2,6,[],0,0,[],[],none,0,rfl,h,(le42.t (le96.t (le121.t (le153.t le169)))),hS,m172,Sl.nil⟩
            · replace h:=iF h173 h
              refine cseq ?_
              refine creg ?_
              refine wl (s_move (et d0) (dt (q50 p9)) ?_)
              replace h:=bI h; obtain ⟨r174,g175,h⟩:=h
              refine wl (s_callv isfn21 ef (e1 (et (k50 d9)) (e1 ec e0)) (p_is_w (hg.t (le42.t (le96.t (le121.t (le153.t le169))))) m172 g175 hS) ?_)
              rintro _ w29 ⟨μ18,a177,c178,rfl,le176,hS,m179⟩
              refine pu (dt (q60 p0)) ?_
              refine wl (s_assign (et (k60 d0)) (dt (q50 p8)) ?_)
              refine wnil ?_
              refine xn ?_
              refine cifb (et (k50 d8)) (fun h180=>?_) (fun h180=>?_)
              · replace h:=iT h180 h
                refine creg ?_
                refine wl (s_move (et d0) (dt (q60 p1)) ?_)
                rcases bTe h with ⟨e_,g182,rfl⟩ | ⟨r181,g182,h⟩
                · refine wl (s_callte isfn22 ef (e1 (et (k60 d1)) e0) (p_name_w (hg.t (le42.t (le96.t (le121.t (le153.t (le169.t le176)))))) m179 g182 hS) ?_)
                  rintro w_ ⟨μ_,v0_,v1_,i_,le_,hS⟩
                  replace hS:=Sep.dropL (l:=[_,_]) hS
                  exact thN (P:=Tryd.prog) (fn:=Tryd.f37) ⟨_,_,_,_,((le42.t (le96.t (le121.t (le153.t (le169.t le176))))).t le_),hS⟩
                refine wl (s_callv isfn22 ef (e1 (et (k60 d1)) e0) ((p_name_w (hg.t (le42.t (le96.t (le121.t (le153.t (le169.t le176)))))) m179 g182 hS).ok) ?_)
                rintro _ w30 ⟨μ19,a184,c185,rfl,le183,hS,m186⟩
                refine pu (dt (q60 p2)) ?_
                refine wl (s_move (et d0) (dt (q60 p3)) ?_)
                rcases bTe h with ⟨e_,g188,rfl⟩ | ⟨r187,g188,h⟩
                · refine wl (s_callte isfn50 ef (e1 (et (k60 d3)) e0) ((ParE_sound fu).p_expr (hg.t (le42.t (le96.t (le121.t (le153.t (le169.t (le176.t le183))))))) m186 g188 hS) ?_)
                  rintro w_ ⟨μ_,v0_,v1_,i_,le_,hS⟩
                  replace hS:=Sep.dropL (l:=[_,_]) hS
                  exact thN (P:=Tryd.prog) (fn:=Tryd.f37) ⟨_,_,_,_,((le42.t (le96.t (le121.t (le153.t (le169.t (le176.t le183)))))).t le_),hS⟩
                refine wl (s_callv isfn50 ef (e1 (et (k60 d3)) e0) (((ParE_sound fu).p_expr (hg.t (le42.t (le96.t (le121.t (le153.t (le169.t (le176.t le183))))))) m186 g188 hS).ok) ?_)
                rintro _ w31 ⟨μ20,a190,c191,a193,c194,rfl,le189,hS,m192,m195⟩
                refine pu (dt (q60 p4)) ?_
                refine wl (s_build ti41 pl41 (Fl.o rfl ec rfl rfl p0 (Fl.o rfl (et (k60 d2)) rfl rfl p1 (Fl.n rfl (et (k60 d4)) rfl rfl (Spl.s p2 (of_decide_eq_true rfl) (Spl.s p3 (of_decide_eq_true rfl) (Spl.s p4 (of_decide_eq_true rfl) (Spl.s p5 (of_decide_eq_true rfl) Spl.z)))) Fl.z))) (dt (q60 p5)) ?_)
                refine wl (s_storeA ti41 (et d3) (et (k60 d5)) rfl rfl hS d1 rfl p1 dn ?_)
                clear hS; intro w32 hS
                refine wnil ?_
                refine (fun h=>bn (xl h)) ?_
                replace hS:=hS.bg (Bg.s Bg.z)
                replace hS:=hS.bg (Bg.s (Bg.s Bg.z))
                replace hS:=hS.bg (Bg.s (Bg.s Bg.z))
                exact ⟨_,_,rfl,(aK5 (aO50 (aO20 (aO3 aZ)))),_,r187.2.1,a193,c194,r187.2.2.1,r187.2.2.2,7,r181.1,r187.1.Kind,r187.1.N,r187.1.Name,r187.1.Kids,a190,c191,rfl,h,(le42.t (le96.t (le121.t (le153.t (le169.t (le176.t (le183.t le189))))))),hS,m195,m192⟩
              · replace h:=iF h180 h
                refine cseq ?_
                refine creg ?_
                refine wl (s_move (et d0) (dt (q60 p7)) ?_)
                replace h:=bI h; obtain ⟨r196,g197,h⟩:=h
                refine wl (s_callv isfn21 ef (e1 (et (k60 d7)) (e1 ec e0)) (p_is_w (hg.t (le42.t (le96.t (le121.t (le153.t (le169.t le176)))))) m179 g197 hS) ?_)
                rintro _ w33 ⟨μ21,a199,c200,rfl,le198,hS,m201⟩
                refine pu (dt (q60 p8)) ?_
                refine wl (s_assign (et (k60 d8)) (dt (q60 p6)) ?_)
                refine wnil ?_
                refine xn ?_
                refine cifb (et (k60 d6)) (fun h202=>?_) (fun h202=>?_)
                · replace h:=iT h202 h
                  refine creg ?_
                  refine wl (s_move (et d0) (dt (q60 p9)) ?_)
                  rcases bTe h with ⟨e_,g204,rfl⟩ | ⟨r203,g204,h⟩
                  · refine wl (s_callte isfn50 ef (e1 (et (k60 d9)) e0) ((ParE_sound fu).p_expr (hg.t (le42.t (le96.t (le121.t (le153.t (le169.t (le176.t le198))))))) m201 g204 hS) ?_)
                    rintro w_ ⟨μ_,v0_,v1_,i_,le_,hS⟩
                    replace hS:=Sep.dropL (l:=[_,_]) hS
                    exact thN (P:=Tryd.prog) (fn:=Tryd.f37) ⟨_,_,_,_,((le42.t (le96.t (le121.t (le153.t (le169.t (le176.t le198)))))).t le_),hS⟩
                  refine wl (s_callv isfn50 ef (e1 (et (k60 d9)) e0) (((ParE_sound fu).p_expr (hg.t (le42.t (le96.t (le121.t (le153.t (le169.t (le176.t le198))))))) m201 g204 hS).ok) ?_)
                  rintro _ w34 ⟨μ22,a206,c207,a209,c210,rfl,le205,hS,m208,m211⟩
                  refine pu (dt (q70 p0)) ?_
                  refine wl (s_build ti41 pl41 (Fl.o rfl ec rfl rfl p0 (Fl.n rfl (et (k70 d0)) rfl rfl (Spl.s p2 (of_decide_eq_true rfl) (Spl.s p3 (of_decide_eq_true rfl) (Spl.s p4 (of_decide_eq_true rfl) (Spl.s p5 (of_decide_eq_true rfl) Spl.z)))) Fl.z)) (dt (q70 p1)) ?_)
                  refine wl (s_storeA ti41 (et d3) (et (k70 d1)) rfl rfl hS d1 rfl p1 dn ?_)
                  clear hS; intro w35 hS
                  refine wnil ?_
                  refine (fun h=>bn (xl h)) ?_
                  replace hS:=hS.bg (Bg.s Bg.z)
                  replace hS:=hS.bg (Bg.s (Bg.s Bg.z))
                  replace hS:=hS.bg (Bg.s (Bg.s Bg.z))
                  exact ⟨_,_,rfl,(aK5 (aO50 (aO20 (aO3 aZ)))),_,r203.2.1,a209,c210,r203.2.2.1,r203.2.2.2,8,[],r203.1.Kind,r203.1.N,r203.1.Name,r203.1.Kids,a206,c207,rfl,h,(le42.t (le96.t (le121.t (le153.t (le169.t (le176.t (le198.t le205))))))),hS,m211,m208⟩
                · replace h:=iF h202 h
                  refine cseq ?_
                  refine creg ?_
                  refine wl (s_move (et d0) (dt (q70 p3)) ?_)
                  replace h:=bI h; obtain ⟨r212,g213,h⟩:=h
                  refine wl (s_callv isfn21 ef (e1 (et (k70 d3)) (e1 ec e0)) (p_is_w (hg.t (le42.t (le96.t (le121.t (le153.t (le169.t (le176.t le198))))))) m201 g213 hS) ?_)
                  rintro _ w36 ⟨μ23,a215,c216,rfl,le214,hS,m217⟩
                  refine pu (dt (q70 p4)) ?_
                  refine wl (s_assign (et (k70 d4)) (dt (q70 p2)) ?_)
                  refine wnil ?_
                  refine xn ?_
                  refine cifb (et (k70 d2)) (fun h218=>?_) (fun h218=>?_)
                  · replace h:=iT h218 h
                    refine creg ?_
                    refine wl (s_move (et d0) (dt (q70 p5)) ?_)
                    rcases bTe h with ⟨e_,g220,rfl⟩ | ⟨r219,g220,h⟩
                    · refine wl (s_callte isfn50 ef (e1 (et (k70 d5)) e0) ((ParE_sound fu).p_expr (hg.t (le42.t (le96.t (le121.t (le153.t (le169.t (le176.t (le198.t le214)))))))) m217 g220 hS) ?_)
                      rintro w_ ⟨μ_,v0_,v1_,i_,le_,hS⟩
                      replace hS:=Sep.dropL (l:=[_,_]) hS
                      exact thN (P:=Tryd.prog) (fn:=Tryd.f37) ⟨_,_,_,_,((le42.t (le96.t (le121.t (le153.t (le169.t (le176.t (le198.t le214))))))).t le_),hS⟩
                    refine wl (s_callv isfn50 ef (e1 (et (k70 d5)) e0) (((ParE_sound fu).p_expr (hg.t (le42.t (le96.t (le121.t (le153.t (le169.t (le176.t (le198.t le214)))))))) m217 g220 hS).ok) ?_)
                    rintro _ w37 ⟨μ24,a222,c223,a225,c226,rfl,le221,hS,m224,m227⟩
                    refine pu (dt (q70 p6)) ?_
                    refine wl (s_build ti41 pl41 (Fl.o rfl ec rfl rfl p0 (Fl.n rfl (et (k70 d6)) rfl rfl (Spl.s p2 (of_decide_eq_true rfl) (Spl.s p3 (of_decide_eq_true rfl) (Spl.s p4 (of_decide_eq_true rfl) (Spl.s p5 (of_decide_eq_true rfl) Spl.z)))) Fl.z)) (dt (q70 p7)) ?_)
                    refine wl (s_storeA ti41 (et d3) (et (k70 d7)) rfl rfl hS d1 rfl p1 dn ?_)
                    clear hS; intro w38 hS
                    refine wnil ?_
                    refine (fun h=>bn (xl h)) ?_
                    replace hS:=hS.bg (Bg.s Bg.z)
                    replace hS:=hS.bg (Bg.s (Bg.s Bg.z))
                    replace hS:=hS.bg (Bg.s (Bg.s Bg.z))
                    exact ⟨_,_,rfl,(aK5 (aO50 (aO20 (aO3 aZ)))),_,r219.2.1,a225,c226,r219.2.2.1,r219.2.2.2,9,[],r219.1.Kind,r219.1.N,r219.1.Name,r219.1.Kids,a222,c223,rfl,h,(le42.t (le96.t (le121.t (le153.t (le169.t (le176.t (le198.t (le214.t le221)))))))),hS,m227,m224⟩
                  · replace h:=iF h218 h
                    refine cseq ?_
                    refine creg ?_
                    refine wl (s_move (et d0) (dt p5) ?_)
                    rcases bTe h with ⟨e_,g229,rfl⟩ | ⟨r228,g229,h⟩
                    · refine wl (s_callte isfn22 ef (e1 (et d5) e0) (p_name_w (hg.t (le42.t (le96.t (le121.t (le153.t (le169.t (le176.t (le198.t le214)))))))) m217 g229 hS) ?_)
                      rintro w_ ⟨μ_,v0_,v1_,i_,le_,hS⟩
                      replace hS:=Sep.dropL (l:=[_,_]) hS
                      exact thN (P:=Tryd.prog) (fn:=Tryd.f37) ⟨_,_,_,_,((le42.t (le96.t (le121.t (le153.t (le169.t (le176.t (le198.t le214))))))).t le_),hS⟩
                    refine wl (s_callv isfn22 ef (e1 (et d5) e0) ((p_name_w (hg.t (le42.t (le96.t (le121.t (le153.t (le169.t (le176.t (le198.t le214)))))))) m217 g229 hS).ok) ?_)
                    rintro _ w39 ⟨μ25,a231,c232,rfl,le230,hS,m233⟩
                    refine pu (dt p6) ?_
                    refine wl (s_build ti41 pl41 (Fl.o rfl ec rfl rfl p0 (Fl.o rfl (et d6) rfl rfl p1 Fl.z)) (dt p7) ?_)
                    refine wl (s_storeA ti41 (et d3) (et d7) rfl rfl hS d1 rfl p1 dn ?_)
                    clear hS; intro w40 hS
                    refine wnil ?_
                    refine xn ?_
                    refine cseq ?_
                    refine creg ?_
                    refine wl (s_move (et d0) (dt p8) ?_)
                    refine wl (s_bsl Tryd.underlying81 ti9 (Parts.s ec rfl Parts.z) rfl rfl hS ?_); clear hS; intro b234 w41 hb235 hS; refine pu (dt p9) ?_
                    obtain ⟨μ26,le237,m236,hS⟩:=Sep.frzBlk (l:=([[61]]:List (List UInt8))) hS (Rw.one (α:=List UInt8) rfl) (Nat.le_of_ble_eq_true rfl)
                    rcases bTe h with ⟨e_,g239,rfl⟩ | ⟨r238,g239,h⟩
                    · refine wl (s_callte isfn25 ef (e1 (et d8) (e1 (et d9) e0)) (p_need_w (hg.t (le42.t (le96.t (le121.t (le153.t (le169.t (le176.t (le198.t (le214.t (le230.t le237)))))))))) (m233.up le237) m236 g239 hS) ?_)
                      rintro w_ ⟨μ_,v0_,v1_,i_,le_,hS⟩
                      replace hS:=Sep.dropL (l:=[_,_]) hS
                      exact thN (P:=Tryd.prog) (fn:=Tryd.f37) ⟨_,_,_,_,((le42.t (le96.t (le121.t (le153.t (le169.t (le176.t (le198.t (le214.t (le230.t le237))))))))).t le_),hS⟩
                    refine wl (s_callv isfn25 ef (e1 (et d8) (e1 (et d9) e0)) ((p_need_w (hg.t (le42.t (le96.t (le121.t (le153.t (le169.t (le176.t (le198.t (le214.t (le230.t le237)))))))))) (m233.up le237) m236 g239 hS).ok) ?_)
                    rintro _ w42 ⟨μ27,a241,c242,rfl,le240,hS,m243⟩
                    refine pu (dt (q10 p0)) ?_
                    refine wnil ?_
                    refine xn ?_
                    refine creg ?_
                    refine wl (s_move (et d0) (dt (q10 p1)) ?_)
                    rcases bTe h with ⟨e_,g245,rfl⟩ | ⟨r244,g245,h⟩
                    · refine wl (s_callte isfn50 ef (e1 (et (k10 d1)) e0) ((ParE_sound fu).p_expr (hg.t (le42.t (le96.t (le121.t (le153.t (le169.t (le176.t (le198.t (le214.t (le230.t (le237.t le240))))))))))) m243 g245 hS) ?_)
                      rintro w_ ⟨μ_,v0_,v1_,i_,le_,hS⟩
                      replace hS:=Sep.dropL (l:=[_,_]) hS
                      exact thN (P:=Tryd.prog) (fn:=Tryd.f37) ⟨_,_,_,_,((le42.t (le96.t (le121.t (le153.t (le169.t (le176.t (le198.t (le214.t (le230.t (le237.t le240)))))))))).t le_),hS⟩
                    refine wl (s_callv isfn50 ef (e1 (et (k10 d1)) e0) (((ParE_sound fu).p_expr (hg.t (le42.t (le96.t (le121.t (le153.t (le169.t (le176.t (le198.t (le214.t (le230.t (le237.t le240))))))))))) m243 g245 hS).ok) ?_)
                    rintro _ w43 ⟨μ28,a247,c248,a250,c251,rfl,le246,hS,m249,m252⟩
                    refine pu (dt (q10 p2)) ?_
                    refine wl (s_fa fa41_2 (et d3) rfl (dt (q10 p3)) ?_)
                    refine wl (s_store ti39 (et (k10 d3)) (et (k10 d2)) rfl rfl rfl hS d1 (Spl.s p2 (of_decide_eq_true rfl) (Spl.s p3 (of_decide_eq_true rfl) (Spl.s p4 (of_decide_eq_true rfl) (Spl.s p5 (of_decide_eq_true rfl) Spl.z)))) rfl p1 dn ?_)
                    clear hS; intro w44 hS
                    refine wnil ?_
                    refine (fun h=>bn (xl h)) ?_
                    replace hS:=hS.bg (Bg.s Bg.z)
                    replace hS:=hS.bg (Bg.s (Bg.s Bg.z))
                    replace hS:=hS.bg (Bg.s (Bg.s Bg.z))
                    exact ⟨_,_,rfl,(aK5 (aO50 (aO20 (aO3 aZ)))),_,r244.2.1,a250,c251,r244.2.2.1,r244.2.2.2,2,r228.1,r244.1.Kind,r244.1.N,r244.1.Name,r244.1.Kids,a247,c248,rfl,h,(le42.t (le96.t (le121.t (le153.t (le169.t (le176.t (le198.t (le214.t (le230.t (le237.t (le240.t le246))))))))))),hS,m252,m249⟩
  · rintro _ t w45 ⟨μ29,l26,a24,c25,i28,i29,i30,s31,i33,i34,s35,l38,a36,c37,rfl,h,le253,hS,m254,m255⟩
    unfold p_stat_j1 at h
    refine nrm (mK5 (mO50 (mO20 (mO3 mz)))) ?_
    refine xn ?_
    refine cseq ?_
    refine creg ?_
    refine wl (s_move (et d0) (dt (q70 p8)) ?_)
    refine wl (s_bsl Tryd.underlying81 ti9 (Parts.s ec rfl Parts.z) rfl rfl hS ?_); clear hS; intro b256 w46 hb257 hS; refine pu (dt (q70 p9)) ?_
    obtain ⟨μ30,le259,m258,hS⟩:=Sep.frzBlk (l:=([[59]]:List (List UInt8))) hS (Rw.one (α:=List UInt8) rfl) (Nat.le_of_ble_eq_true rfl)
    rcases bTe h with ⟨e_,g261,rfl⟩ | ⟨r260,g261,h⟩
    · refine wl (s_callte isfn25 ef (e1 (et (k70 d8)) (e1 (et (k70 d9)) e0)) (p_need_w (hg.t (le253.t le259)) (m254.up le259) m258 g261 hS) ?_)
      rintro w_ ⟨μ_,v0_,v1_,i_,le_,hS⟩
      replace hS:=Sep.dropL (l:=[_,_]) hS
      exact thN (P:=Tryd.prog) (fn:=Tryd.f37) ⟨_,_,_,_,((le253.t le259).t le_),hS⟩
    refine wl (s_callv isfn25 ef (e1 (et (k70 d8)) (e1 (et (k70 d9)) e0)) ((p_need_w (hg.t (le253.t le259)) (m254.up le259) m258 g261 hS).ok) ?_)
    rintro _ w47 ⟨μ31,a263,c264,rfl,le262,hS,m265⟩
    refine pu (dt (q80 p0)) ?_
    refine wnil ?_
    refine xn ?_
    refine cseq ?_
    refine creg ?_
    refine wl (s_loads ti41 (et d3) (hS.blk d2).cells rfl (dt (q80 p1)) ?_)
    refine wl (s_storeA ti41 (et d2) (et (k80 d1)) rfl rfl hS d1 rfl p1 dn ?_)
    clear hS; intro w48 hS
    refine wnil ?_
    refine xn ?_
    refine cret ?_
    obtain rfl:=oI h
    refine okT ?_
    refine retN rfl (RVs.s (.a d2 ti41 (hS.blk d1).cells rfl) RVs.z) ?_
    replace hS:=hS.drop (Rm.s Rm.z)
    replace hS:=hS.drop (Rm.s Rm.z)
    exact ⟨_,a36,c37,none,0,none,0,a263,c264,rfl,(le253.t (le259.t le262)),hS,(m255.up (le259.t le262)),Sl.nil,Sl.nil,m265⟩
theorem ParS_sound:∀ n,ParSSound (ParS_run n)
  | 0=>⟨(by intros; rename_i h _; cases h),(by intros; rename_i h _; cases h)⟩
  | n+1=>⟨p_body_w (ParS_sound n),p_stat_w (ParS_sound n)⟩
theorem p_def_w {fu:Nat} {μ0:M} {w0 w:World} {rsF:List Res} (hg:Le Gm μ0) {b1:Nat} {left_2:List TToken} {a3:Option Addr} {c4:Nat} {end_6:Int} {deep_7:Int} {r:Except TFault (TDef×List TToken×Int×Int)} (m5:Sl μ0 a3 c4 left_2) (h:p_def fu left_2 end_6 deep_7=some r) (hS:Sq μ0 w0 w (.blk b1 49 [.slice a3 left_2.length c4,.int .i64 end_6,.int .i64 deep_7]::rsF)):CallsT Tryd.prog 11 [.pointer (some ⟨b1,0,none⟩)] w Voops r (fun x v w'=>∃ (μ':M) (a8:Option Addr) (c9:Nat) (a11:Option Addr) (c12:Nat) (a14:Option Addr) (c15:Nat),v=.agg ⟨[.int .i64 x.1.Kind,S x.1.Name,.int .i64 x.1.Typ.Kind,S x.1.Typ.Gen,.int .i64 x.1.Takes.Kind,S x.1.Takes.Gen,.int .i64 x.1.Cap,.slice a8 x.1.Params.length c9,.slice a11 x.1.Body.length c12]⟩∧Le μ0 μ'∧Sq μ' w0 w' (.blk b1 49 [.slice a14 x.2.1.length c15,.int .i64 x.2.2.1,.int .i64 x.2.2.2]::rsF)∧Sl μ' a8 c9 x.1.Params∧Sl μ' a11 c12 x.1.Body∧Sl μ' a14 c15 x.2.1) (EP μ0 w0 b1 49 rsF):=by
  unfold p_def at h
  refine enterT Tryd.func11 rfl (frm:=[_,_,_,_,_,_,_,_,_,_,_,_,_,_,_,_,_,_,_,_,_,_,_,_,_,_,_,_,_,_,_,_,_,_,_,_,_,_,_,_,_,_,_,_,_,_,_,_,_,_,_,_,_,_,_,_,_,_,_,_,_,_,_,_,_,_,_,_,_,_,_,_,_,_,_,_,_,_,_,_,_,_,_,_,_,_,_,_]) rfl ?_
  refine cseq ?_
  refine creg ?_
  refine wl (s_alloc ti36 hS ?_); clear hS; intro b17 w1 hb18 hS; refine pu (dt p2) ?_
  refine wnil ?_
  refine xn ?_
  refine cseq ?_
  refine creg ?_
  refine wl (s_move (et d0) (dt p8) ?_)
  replace h:=bI h; obtain ⟨r19,g20,h⟩:=h
  replace hS:=hS.bg (Bg.s Bg.z)
  refine wl (s_callv isfn10 ef (e1 (et d8) e0) (p_at_w hg m5 g20 hS) ?_)
  rintro _ w2 ⟨μ1,rfl,le21,hS⟩
  refine pu (dt p9) ?_
  refine wl (s_assign (et d9) (dt p3) ?_)
  refine wnil ?_
  refine xn ?_
  refine cseq ?_
  refine cblock ?_
  refine cseq ?_
  refine creg ?_
  refine wl (s_move (et d0) (dt (q10 p1)) ?_)
  replace h:=bI h; obtain ⟨r22,g23,h⟩:=h
  refine wl (s_callv isfn21 ef (e1 (et (k10 d1)) (e1 ec e0)) (p_is_w (hg.t le21) (m5.up le21) g23 hS) ?_)
  rintro _ w3 ⟨μ2,a25,c26,rfl,le24,hS,m27⟩
  refine pu (dt (q10 p2)) ?_
  refine wl (s_assign (et (k10 d2)) (dt (q10 p0)) ?_)
  refine wnil ?_
  refine xn ?_
  refine cifb (et (k10 d0)) (fun h28=>?_) (fun h28=>?_)
  · replace h:=iT h28 h
    refine cseq ?_
    refine creg ?_
    refine wl (s_move (et d0) (dt (q10 p3)) ?_)
    rcases bTe h with ⟨e_,g30,rfl⟩ | ⟨r29,g30,h⟩
    · refine wl (s_callte isfn22 ef (e1 (et (k10 d3)) e0) (p_name_w (hg.t (le21.t le24)) m27 g30 hS) ?_)
      rintro w_ ⟨μ_,v0_,v1_,i_,le_,hS⟩
      replace hS:=Sep.dropL (l:=[_]) hS
      exact thN (P:=Tryd.prog) (fn:=Tryd.f11) ⟨_,_,_,_,((le21.t le24).t le_),hS⟩
    refine wl (s_callv isfn22 ef (e1 (et (k10 d3)) e0) ((p_name_w (hg.t (le21.t le24)) m27 g30 hS).ok) ?_)
    rintro _ w4 ⟨μ3,a32,c33,rfl,le31,hS,m34⟩
    refine pu (dt (q10 p4)) ?_
    refine wl (s_move (et d0) (dt (q10 p5)) ?_)
    rcases bTe h with ⟨e_,g36,rfl⟩ | ⟨r35,g36,h⟩
    · refine wl (s_callte isfn23 ef (e1 (et (k10 d5)) e0) (p_typ_w (hg.t (le21.t (le24.t le31))) m34 g36 hS) ?_)
      rintro w_ ⟨μ_,v0_,v1_,i_,le_,hS⟩
      replace hS:=Sep.dropL (l:=[_]) hS
      exact thN (P:=Tryd.prog) (fn:=Tryd.f11) ⟨_,_,_,_,((le21.t (le24.t le31)).t le_),hS⟩
    refine wl (s_callv isfn23 ef (e1 (et (k10 d5)) e0) ((p_typ_w (hg.t (le21.t (le24.t le31))) m34 g36 hS).ok) ?_)
    rintro _ w5 ⟨μ4,a38,c39,rfl,le37,hS,m40⟩
    refine pu (dt (q10 p6)) ?_
    refine wl (s_build ti36 pl36 (Fl.o rfl ec rfl rfl p0 (Fl.o rfl (et (k10 d4)) rfl rfl p1 (Fl.n rfl (et (k10 d6)) rfl rfl (Spl.s p2 (of_decide_eq_true rfl) (Spl.s p3 (of_decide_eq_true rfl) Spl.z)) Fl.z))) (dt (q10 p7)) ?_)
    refine wl (s_alloc ti36 hS ?_); clear hS; intro b41 w6 hb42 hS; refine pu (dt p4) ?_
    refine wl (s_storeA ti36 (et d4) (et (k10 d7)) rfl rfl hS d0 rfl p0 dn ?_)
    clear hS; intro w7 hS
    refine wnil ?_
    refine xn ?_
    refine cseq ?_
    refine creg ?_
    refine wl (s_move (et d0) (dt (q10 p8)) ?_)
    replace h:=bI h; obtain ⟨r43,g44,h⟩:=h
    replace hS:=hS.bg (Bg.s Bg.z)
    refine wl (s_callv isfn10 ef (e1 (et (k10 d8)) e0) (p_at_w (hg.t (le21.t (le24.t (le31.t le37)))) m40 g44 hS) ?_)
    rintro _ w8 ⟨μ5,rfl,le45,hS⟩
    refine pu (dt (q10 p9)) ?_
    refine wl (s_assign (et (k10 d9)) (dt p3) ?_)
    refine wnil ?_
    refine xn ?_
    refine cseq ?_
    refine creg ?_
    refine wl (s_move (et d0) (dt (q20 p0)) ?_)
    rcases bTe h with ⟨e_,g47,rfl⟩ | ⟨r46,g47,h⟩
    · refine wl (s_callte isfn24 ef (e1 (et (k20 d0)) e0) (p_number_w (hg.t (le21.t (le24.t (le31.t (le37.t le45))))) (m40.up le45) g47 hS) ?_)
      rintro w_ ⟨μ_,v0_,v1_,i_,le_,hS⟩
      replace hS:=Sep.dropL (l:=[_,_]) hS
      exact thN (P:=Tryd.prog) (fn:=Tryd.f11) ⟨_,_,_,_,((le21.t (le24.t (le31.t (le37.t le45)))).t le_),hS⟩
    refine wl (s_callv isfn24 ef (e1 (et (k20 d0)) e0) ((p_number_w (hg.t (le21.t (le24.t (le31.t (le37.t le45))))) (m40.up le45) g47 hS).ok) ?_)
    rintro _ w9 ⟨μ6,a49,c50,rfl,le48,hS,m51⟩
    refine pu (dt (q20 p1)) ?_
    refine wl (s_assign (et (k20 d1)) (dt p5) ?_)
    refine wnil ?_
    refine xn ?_
    refine cseq ?_
    refine cseq ?_
    refine ccutE (rg 22 5) (by decide) (fun m w=>∃ (μx:M) (b52:Bool),m=(yK20 (yK2 (yO5 22 (.i (.bool b52)::[]))))∧p_def_j1 r29 r35 r43 r46 b52=some r∧Le μ6 μx∧Sq μx w0 w (.blk b1 49 [.slice a49 r46.2.1.length c50,.int .i64 r46.2.2.1,.int .i64 r46.2.2.2]::.blk b17 36 [.int .i64 0,S [],.int .i64 0,S [],.int .i64 0,S [],.int .i64 0,.slice none 0 0,.slice none 0 0]::.blk b41 36 [.int .i64 1,S r29.1,.int .i64 r35.1.Kind,S r35.1.Gen,.int .i64 0,S [],.int .i64 0,.slice none 0 0,.slice none 0 0]::rsF)) (by rintro _ _ ⟨_,_,rfl,_⟩; rfl) ?_ ?_
    · refine creg ?_
      refine wl (s_move (et d5) (dt (q20 p2)) ?_)
      refine wl (s_lss (et (k20 d2)) ec (dt (q20 p3)) ?_)
      refine wl (s_move (et (k20 d3)) (dt (q20 p4)) ?_)
      refine wspd (k20 d4) (q20 p4) (q20 p4) (fun h53=>?_) (fun h53=>?_)
      · replace h:=iT h53 h
        refine wn rfl (k20 d4) rfl (dt (q20 p5)) ?_
        refine wn rfl (k20 d4) rfl (dt (q20 p6)) ?_
        refine wl (s_pickt (et (k20 d4)) ec (dt (q20 p7)) ?_)
        refine wnil ?_
        refine xl ?_
        replace hS:=hS.bg (Bg.s Bg.z)
        replace hS:=hS.bg (Bg.s (Bg.s Bg.z))
        replace hS:=hS.bg (Bg.s (Bg.s Bg.z))
        exact ⟨_,_,rfl,(aK20 (aK2 (aO5 (aI aZ)))),_,true,rfl,h,Le.r,hS⟩
      · replace h:=iF h53 h
        refine wy rfl (k20 d4) (s_move (et d5) (dt (q20 p5)) ?_)
        refine wy rfl (k20 d4) (s_gtr (et (k20 d5)) ec (dt (q20 p6)) ?_)
        refine wl (s_pickf (et (k20 d4)) (et (k20 d6)) (dt (q20 p7)) ?_)
        refine wnil ?_
        refine xl ?_
        replace hS:=hS.bg (Bg.s Bg.z)
        replace hS:=hS.bg (Bg.s (Bg.s Bg.z))
        replace hS:=hS.bg (Bg.s (Bg.s Bg.z))
        exact ⟨_,_,rfl,(aK20 (aK2 (aO5 (aI aZ)))),_,(decide ((20:Int)<r46.1)),rfl,h,Le.r,hS⟩
    · rintro _ t w10 ⟨μ7,b52,rfl,h,le54,hS⟩
      unfold p_def_j1 at h
      refine nrm (mK20 (mK2 (mO5 (mi mz)))) ?_
      refine xn ?_
      refine cifb (et (k20 d7)) (fun h55=>?_) (fun h55=>?_)
      · replace h:=iT h55 h
        refine creg ?_
        refine wl (s_move (et d0) (dt (q20 p8)) ?_)
        refine wl (s_move (et d3) (dt (q20 p9)) ?_)
        obtain rfl:=oI h
        refine wl (s_callte isfn9 ef (e1 (et (k20 d8)) (e1 ec (e1 (et (k20 d9)) e0))) (p_fail_w (R:=fun (_:Unit) _ _=>True) hS) ?_)
        rintro w_ ⟨μ_,v0_,v1_,i_,le_,hS⟩
        replace hS:=Sep.dropL (l:=[_,_]) hS
        exact thN (P:=Tryd.prog) (fn:=Tryd.f11) ⟨_,_,_,_,((le21.t (le24.t (le31.t (le37.t (le45.t (le48.t le54)))))).t le_),hS⟩
      · replace h:=iF h55 h
        refine cskip ?_
        refine xn ?_
        refine cseq ?_
        refine creg ?_
        refine wl (s_move (et d5) (dt (q30 p1)) ?_)
        refine wl (s_fa fa36_4 (et d4) rfl (dt (q30 p2)) ?_)
        refine wl (s_store1 ti3 (et (k30 d2)) (et (k30 d1)) rfl hS d2 p6 rfl p2 dn ?_)
        clear hS; intro w11 hS
        refine wnil ?_
        refine xn ?_
        refine cseq ?_
        refine creg ?_
        refine wl (s_move (et d0) (dt (q30 p3)) ?_)
        refine wl (s_bsl Tryd.underlying81 ti9 (Parts.s ec rfl Parts.z) rfl rfl hS ?_); clear hS; intro b56 w12 hb57 hS; refine pu (dt (q30 p4)) ?_
        obtain ⟨μ8,le59,m58,hS⟩:=Sep.frzBlk (l:=([[59]]:List (List UInt8))) hS (Rw.one (α:=List UInt8) rfl) (Nat.le_of_ble_eq_true rfl)
        rcases bTe h with ⟨e_,g61,rfl⟩ | ⟨r60,g61,h⟩
        · refine wl (s_callte isfn25 ef (e1 (et (k30 d3)) (e1 (et (k30 d4)) e0)) (p_need_w (hg.t (le21.t (le24.t (le31.t (le37.t (le45.t (le48.t (le54.t le59)))))))) (m51.up (le54.t le59)) m58 g61 hS) ?_)
          rintro w_ ⟨μ_,v0_,v1_,i_,le_,hS⟩
          replace hS:=Sep.dropL (l:=[_,_]) hS
          exact thN (P:=Tryd.prog) (fn:=Tryd.f11) ⟨_,_,_,_,((le21.t (le24.t (le31.t (le37.t (le45.t (le48.t (le54.t le59))))))).t le_),hS⟩
        refine wl (s_callv isfn25 ef (e1 (et (k30 d3)) (e1 (et (k30 d4)) e0)) ((p_need_w (hg.t (le21.t (le24.t (le31.t (le37.t (le45.t (le48.t (le54.t le59)))))))) (m51.up (le54.t le59)) m58 g61 hS).ok) ?_)
        rintro _ w13 ⟨μ9,a63,c64,rfl,le62,hS,m65⟩
        refine pu (dt (q30 p5)) ?_
        refine wnil ?_
        refine xn ?_
        refine cseq ?_
        refine creg ?_
        refine wl (s_loads ti36 (et d4) (hS.blk d2).cells rfl (dt (q30 p6)) ?_)
        refine wl (s_storeA ti36 (et d2) (et (k30 d6)) rfl rfl hS d1 rfl p1 dn ?_)
        clear hS; intro w14 hS
        refine wnil ?_
        refine xn ?_
        refine cret ?_
        refine (fun h=>br (xr h)) ?_
        obtain rfl:=oI h
        refine okT ?_
        refine retN rfl (RVs.s (.a d2 ti36 (hS.blk d1).cells rfl) RVs.z) ?_
        replace hS:=hS.drop (Rm.s Rm.z)
        replace hS:=hS.drop (Rm.s Rm.z)
        exact ⟨_,none,0,none,0,a63,c64,rfl,(le21.t (le24.t (le31.t (le37.t (le45.t (le48.t (le54.t (le59.t le62)))))))),hS,Sl.nil,Sl.nil,m65⟩
  · replace h:=iF h28 h
    refine cseq ?_
    refine creg ?_
    refine wl (s_move (et d0) (dt (q30 p8)) ?_)
    replace h:=bI h; obtain ⟨r66,g67,h⟩:=h
    refine wl (s_callv isfn21 ef (e1 (et (k30 d8)) (e1 ec e0)) (p_is_w (hg.t (le21.t le24)) m27 g67 hS) ?_)
    rintro _ w15 ⟨μ10,a69,c70,rfl,le68,hS,m71⟩
    refine pu (dt (q30 p9)) ?_
    refine wl (s_assign (et (k30 d9)) (dt (q30 p7)) ?_)
    refine wnil ?_
    refine xn ?_
    refine cifb (et (k30 d7)) (fun h72=>?_) (fun h72=>?_)
    · replace h:=iT h72 h
      refine cseq ?_
      refine creg ?_
      refine wl (s_move (et d0) (dt (q40 p0)) ?_)
      rcases bTe h with ⟨e_,g74,rfl⟩ | ⟨r73,g74,h⟩
      · refine wl (s_callte isfn22 ef (e1 (et (k40 d0)) e0) (p_name_w (hg.t (le21.t (le24.t le68))) m71 g74 hS) ?_)
        rintro w_ ⟨μ_,v0_,v1_,i_,le_,hS⟩
        replace hS:=Sep.dropL (l:=[_]) hS
        exact thN (P:=Tryd.prog) (fn:=Tryd.f11) ⟨_,_,_,_,((le21.t (le24.t le68)).t le_),hS⟩
      refine wl (s_callv isfn22 ef (e1 (et (k40 d0)) e0) ((p_name_w (hg.t (le21.t (le24.t le68))) m71 g74 hS).ok) ?_)
      rintro _ w16 ⟨μ11,a76,c77,rfl,le75,hS,m78⟩
      refine pu (dt (q40 p1)) ?_
      refine wl (s_move (et d0) (dt (q40 p2)) ?_)
      rcases bTe h with ⟨e_,g80,rfl⟩ | ⟨r79,g80,h⟩
      · refine wl (s_callte isfn26 ef (e1 (et (k40 d2)) e0) (p_params_w (hg.t (le21.t (le24.t (le68.t le75)))) m78 g80 hS) ?_)
        rintro w_ ⟨μ_,v0_,v1_,i_,le_,hS⟩
        replace hS:=Sep.dropL (l:=[_]) hS
        exact thN (P:=Tryd.prog) (fn:=Tryd.f11) ⟨_,_,_,_,((le21.t (le24.t (le68.t le75))).t le_),hS⟩
      refine wl (s_callv isfn26 ef (e1 (et (k40 d2)) e0) ((p_params_w (hg.t (le21.t (le24.t (le68.t le75)))) m78 g80 hS).ok) ?_)
      rintro _ w17 ⟨μ12,a82,c83,a85,c86,rfl,le81,hS,m84,m87⟩
      refine pu (dt (q40 p3)) ?_
      refine wl (s_build ti36 pl36 (Fl.o rfl ec rfl rfl p0 (Fl.o rfl (et (k40 d1)) rfl rfl p1 (Fl.o rfl (et (k40 d3)) rfl rfl p7 Fl.z))) (dt (q40 p4)) ?_)
      refine wl (s_alloc ti36 hS ?_); clear hS; intro b88 w18 hb89 hS; refine pu (dt p6) ?_
      refine wl (s_storeA ti36 (et d6) (et (k40 d4)) rfl rfl hS d0 rfl p0 dn ?_)
      clear hS; intro w19 hS
      refine wnil ?_
      refine xn ?_
      refine cseq ?_
      refine creg ?_
      refine wl (s_move (et d0) (dt (q40 p5)) ?_)
      replace hS:=hS.bg (Bg.s Bg.z)
      rcases bTe h with ⟨e_,g91,rfl⟩ | ⟨r90,g91,h⟩
      · refine wl (s_callte isfn23 ef (e1 (et (k40 d5)) e0) (p_typ_w (hg.t (le21.t (le24.t (le68.t (le75.t le81))))) m87 g91 hS) ?_)
        rintro w_ ⟨μ_,v0_,v1_,i_,le_,hS⟩
        replace hS:=Sep.dropL (l:=[_,_]) hS
        exact thN (P:=Tryd.prog) (fn:=Tryd.f11) ⟨_,_,_,_,((le21.t (le24.t (le68.t (le75.t le81)))).t le_),hS⟩
      refine wl (s_callv isfn23 ef (e1 (et (k40 d5)) e0) ((p_typ_w (hg.t (le21.t (le24.t (le68.t (le75.t le81))))) m87 g91 hS).ok) ?_)
      rintro _ w20 ⟨μ13,a93,c94,rfl,le92,hS,m95⟩
      refine pu (dt (q40 p6)) ?_
      refine wl (s_fa fa36_2 (et d6) rfl (dt (q40 p7)) ?_)
      refine wl (s_store ti32 (et (k40 d7)) (et (k40 d6)) rfl rfl rfl hS d1 (Spl.s p2 (of_decide_eq_true rfl) (Spl.s p3 (of_decide_eq_true rfl) Spl.z)) rfl p1 dn ?_)
      clear hS; intro w21 hS
      refine wnil ?_
      refine xn ?_
      refine cseq ?_
      refine creg ?_
      refine wl (s_move (et d0) (dt (q40 p8)) ?_)
      rcases bTe h with ⟨e_,g97,rfl⟩ | ⟨r96,g97,h⟩
      · refine wl (s_callte isfn27 ef (e1 (et (k40 d8)) e0) ((ParS_sound fu).p_body (hg.t (le21.t (le24.t (le68.t (le75.t (le81.t le92)))))) m95 g97 hS) ?_)
        rintro w_ ⟨μ_,v0_,v1_,i_,le_,hS⟩
        replace hS:=Sep.dropL (l:=[_,_]) hS
        exact thN (P:=Tryd.prog) (fn:=Tryd.f11) ⟨_,_,_,_,((le21.t (le24.t (le68.t (le75.t (le81.t le92))))).t le_),hS⟩
      refine wl (s_callv isfn27 ef (e1 (et (k40 d8)) e0) (((ParS_sound fu).p_body (hg.t (le21.t (le24.t (le68.t (le75.t (le81.t le92)))))) m95 g97 hS).ok) ?_)
      rintro _ w22 ⟨μ14,a99,c100,a102,c103,rfl,le98,hS,m101,m104⟩
      refine pu (dt (q40 p9)) ?_
      refine wl (s_fa fa36_6 (et d6) rfl (dt (q50 p0)) ?_)
      refine wl (s_store1 ti34 (et (k50 d0)) (et (k40 d9)) rfl hS d1 p8 rfl p1 dn ?_)
      clear hS; intro w23 hS
      refine wnil ?_
      refine xn ?_
      refine cseq ?_
      refine creg ?_
      refine wl (s_loads ti36 (et d6) (hS.blk d1).cells rfl (dt (q50 p1)) ?_)
      refine wl (s_storeA ti36 (et d2) (et (k50 d1)) rfl rfl hS d2 rfl p2 dn ?_)
      clear hS; intro w24 hS
      refine wnil ?_
      refine xn ?_
      refine cret ?_
      refine (fun h=>br (xr h)) ?_
      obtain rfl:=oI h
      refine okT ?_
      refine retN rfl (RVs.s (.a d2 ti36 (hS.blk d2).cells rfl) RVs.z) ?_
      replace hS:=hS.drop (Rm.s Rm.z)
      replace hS:=hS.drop (Rm.s Rm.z)
      exact ⟨_,a82,c83,a99,c100,a102,c103,rfl,(le21.t (le24.t (le68.t (le75.t (le81.t (le92.t le98)))))),hS,(m84.up (le92.t le98)),m101,m104⟩
    · replace h:=iF h72 h
      refine cseq ?_
      refine creg ?_
      refine wl (s_move (et d0) (dt (q50 p3)) ?_)
      replace h:=bI h; obtain ⟨r105,g106,h⟩:=h
      refine wl (s_callv isfn21 ef (e1 (et (k50 d3)) (e1 ec e0)) (p_is_w (hg.t (le21.t (le24.t le68))) m71 g106 hS) ?_)
      rintro _ w25 ⟨μ15,a108,c109,rfl,le107,hS,m110⟩
      refine pu (dt (q50 p4)) ?_
      refine wl (s_assign (et (k50 d4)) (dt (q50 p2)) ?_)
      refine wnil ?_
      refine xn ?_
      refine cifb (et (k50 d2)) (fun h111=>?_) (fun h111=>?_)
      · replace h:=iT h111 h
        refine cseq ?_
        refine creg ?_
        refine wl (s_move (et d0) (dt (q50 p5)) ?_)
        rcases bTe h with ⟨e_,g113,rfl⟩ | ⟨r112,g113,h⟩
        · refine wl (s_callte isfn22 ef (e1 (et (k50 d5)) e0) (p_name_w (hg.t (le21.t (le24.t (le68.t le107)))) m110 g113 hS) ?_)
          rintro w_ ⟨μ_,v0_,v1_,i_,le_,hS⟩
          replace hS:=Sep.dropL (l:=[_]) hS
          exact thN (P:=Tryd.prog) (fn:=Tryd.f11) ⟨_,_,_,_,((le21.t (le24.t (le68.t le107))).t le_),hS⟩
        refine wl (s_callv isfn22 ef (e1 (et (k50 d5)) e0) ((p_name_w (hg.t (le21.t (le24.t (le68.t le107)))) m110 g113 hS).ok) ?_)
        rintro _ w26 ⟨μ16,a115,c116,rfl,le114,hS,m117⟩
        refine pu (dt (q50 p6)) ?_
        refine wl (s_move (et d0) (dt (q50 p7)) ?_)
        rcases bTe h with ⟨e_,g119,rfl⟩ | ⟨r118,g119,h⟩
        · refine wl (s_callte isfn26 ef (e1 (et (k50 d7)) e0) (p_params_w (hg.t (le21.t (le24.t (le68.t (le107.t le114))))) m117 g119 hS) ?_)
          rintro w_ ⟨μ_,v0_,v1_,i_,le_,hS⟩
          replace hS:=Sep.dropL (l:=[_]) hS
          exact thN (P:=Tryd.prog) (fn:=Tryd.f11) ⟨_,_,_,_,((le21.t (le24.t (le68.t (le107.t le114)))).t le_),hS⟩
        refine wl (s_callv isfn26 ef (e1 (et (k50 d7)) e0) ((p_params_w (hg.t (le21.t (le24.t (le68.t (le107.t le114))))) m117 g119 hS).ok) ?_)
        rintro _ w27 ⟨μ17,a121,c122,a124,c125,rfl,le120,hS,m123,m126⟩
        refine pu (dt (q50 p8)) ?_
        refine wl (s_build ti36 pl36 (Fl.o rfl ec rfl rfl p0 (Fl.o rfl (et (k50 d6)) rfl rfl p1 (Fl.o rfl (et (k50 d8)) rfl rfl p7 Fl.z))) (dt (q50 p9)) ?_)
        refine wl (s_alloc ti36 hS ?_); clear hS; intro b127 w28 hb128 hS; refine pu (dt p7) ?_
        refine wl (s_storeA ti36 (et d7) (et (k50 d9)) rfl rfl hS d0 rfl p0 dn ?_)
        clear hS; intro w29 hS
        refine wnil ?_
        refine xn ?_
        refine cseq ?_
        refine creg ?_
        refine wl (s_move (et d0) (dt (q60 p0)) ?_)
        refine wl (s_bsl Tryd.underlying81 ti9 (Parts.s ec rfl Parts.z) rfl rfl hS ?_); clear hS; intro b129 w30 hb130 hS; refine pu (dt (q60 p1)) ?_
        obtain ⟨μ18,le132,m131,hS⟩:=Sep.frzBlk (l:=([[116,97,107,101,115]]:List (List UInt8))) hS (Rw.one (α:=List UInt8) rfl) (Nat.le_of_ble_eq_true rfl)
        replace hS:=hS.bg (Bg.s Bg.z)
        rcases bTe h with ⟨e_,g134,rfl⟩ | ⟨r133,g134,h⟩
        · refine wl (s_callte isfn25 ef (e1 (et (k60 d0)) (e1 (et (k60 d1)) e0)) (p_need_w (hg.t (le21.t (le24.t (le68.t (le107.t (le114.t (le120.t le132))))))) (m126.up le132) m131 g134 hS) ?_)
          rintro w_ ⟨μ_,v0_,v1_,i_,le_,hS⟩
          replace hS:=Sep.dropL (l:=[_,_]) hS
          exact thN (P:=Tryd.prog) (fn:=Tryd.f11) ⟨_,_,_,_,((le21.t (le24.t (le68.t (le107.t (le114.t (le120.t le132)))))).t le_),hS⟩
        refine wl (s_callv isfn25 ef (e1 (et (k60 d0)) (e1 (et (k60 d1)) e0)) ((p_need_w (hg.t (le21.t (le24.t (le68.t (le107.t (le114.t (le120.t le132))))))) (m126.up le132) m131 g134 hS).ok) ?_)
        rintro _ w31 ⟨μ19,a136,c137,rfl,le135,hS,m138⟩
        refine pu (dt (q60 p2)) ?_
        refine wnil ?_
        refine xn ?_
        refine cseq ?_
        refine creg ?_
        refine wl (s_move (et d0) (dt (q60 p3)) ?_)
        rcases bTe h with ⟨e_,g140,rfl⟩ | ⟨r139,g140,h⟩
        · refine wl (s_callte isfn23 ef (e1 (et (k60 d3)) e0) (p_typ_w (hg.t (le21.t (le24.t (le68.t (le107.t (le114.t (le120.t (le132.t le135)))))))) m138 g140 hS) ?_)
          rintro w_ ⟨μ_,v0_,v1_,i_,le_,hS⟩
          replace hS:=Sep.dropL (l:=[_,_]) hS
          exact thN (P:=Tryd.prog) (fn:=Tryd.f11) ⟨_,_,_,_,((le21.t (le24.t (le68.t (le107.t (le114.t (le120.t (le132.t le135))))))).t le_),hS⟩
        refine wl (s_callv isfn23 ef (e1 (et (k60 d3)) e0) ((p_typ_w (hg.t (le21.t (le24.t (le68.t (le107.t (le114.t (le120.t (le132.t le135)))))))) m138 g140 hS).ok) ?_)
        rintro _ w32 ⟨μ20,a142,c143,rfl,le141,hS,m144⟩
        refine pu (dt (q60 p4)) ?_
        refine wl (s_fa fa36_3 (et d7) rfl (dt (q60 p5)) ?_)
        refine wl (s_store ti32 (et (k60 d5)) (et (k60 d4)) rfl rfl rfl hS d1 (Spl.s p4 (of_decide_eq_true rfl) (Spl.s p5 (of_decide_eq_true rfl) Spl.z)) rfl p1 dn ?_)
        clear hS; intro w33 hS
        refine wnil ?_
        refine xn ?_
        refine cseq ?_
        refine creg ?_
        refine wl (s_move (et d0) (dt (q60 p6)) ?_)
        refine wl (s_bsl Tryd.underlying81 ti9 (Parts.s ec rfl Parts.z) rfl rfl hS ?_); clear hS; intro b145 w34 hb146 hS; refine pu (dt (q60 p7)) ?_
        obtain ⟨μ21,le148,m147,hS⟩:=Sep.frzBlk (l:=([[121,105,101,108,100,115]]:List (List UInt8))) hS (Rw.one (α:=List UInt8) rfl) (Nat.le_of_ble_eq_true rfl)
        rcases bTe h with ⟨e_,g150,rfl⟩ | ⟨r149,g150,h⟩
        · refine wl (s_callte isfn25 ef (e1 (et (k60 d6)) (e1 (et (k60 d7)) e0)) (p_need_w (hg.t (le21.t (le24.t (le68.t (le107.t (le114.t (le120.t (le132.t (le135.t (le141.t le148)))))))))) (m144.up le148) m147 g150 hS) ?_)
          rintro w_ ⟨μ_,v0_,v1_,i_,le_,hS⟩
          replace hS:=Sep.dropL (l:=[_,_]) hS
          exact thN (P:=Tryd.prog) (fn:=Tryd.f11) ⟨_,_,_,_,((le21.t (le24.t (le68.t (le107.t (le114.t (le120.t (le132.t (le135.t (le141.t le148))))))))).t le_),hS⟩
        refine wl (s_callv isfn25 ef (e1 (et (k60 d6)) (e1 (et (k60 d7)) e0)) ((p_need_w (hg.t (le21.t (le24.t (le68.t (le107.t (le114.t (le120.t (le132.t (le135.t (le141.t le148)))))))))) (m144.up le148) m147 g150 hS).ok) ?_)
        rintro _ w35 ⟨μ22,a152,c153,rfl,le151,hS,m154⟩
        refine pu (dt (q60 p8)) ?_
        refine wnil ?_
        refine xn ?_
        refine cseq ?_
        refine creg ?_
        refine wl (s_move (et d0) (dt (q60 p9)) ?_)
        rcases bTe h with ⟨e_,g156,rfl⟩ | ⟨r155,g156,h⟩
        · refine wl (s_callte isfn23 ef (e1 (et (k60 d9)) e0) (p_typ_w (hg.t (le21.t (le24.t (le68.t (le107.t (le114.t (le120.t (le132.t (le135.t (le141.t (le148.t le151))))))))))) m154 g156 hS) ?_)
          rintro w_ ⟨μ_,v0_,v1_,i_,le_,hS⟩
          replace hS:=Sep.dropL (l:=[_,_]) hS
          exact thN (P:=Tryd.prog) (fn:=Tryd.f11) ⟨_,_,_,_,((le21.t (le24.t (le68.t (le107.t (le114.t (le120.t (le132.t (le135.t (le141.t (le148.t le151)))))))))).t le_),hS⟩
        refine wl (s_callv isfn23 ef (e1 (et (k60 d9)) e0) ((p_typ_w (hg.t (le21.t (le24.t (le68.t (le107.t (le114.t (le120.t (le132.t (le135.t (le141.t (le148.t le151))))))))))) m154 g156 hS).ok) ?_)
        rintro _ w36 ⟨μ23,a158,c159,rfl,le157,hS,m160⟩
        refine pu (dt (q70 p0)) ?_
        refine wl (s_fa fa36_2 (et d7) rfl (dt (q70 p1)) ?_)
        refine wl (s_store ti32 (et (k70 d1)) (et (k70 d0)) rfl rfl rfl hS d1 (Spl.s p2 (of_decide_eq_true rfl) (Spl.s p3 (of_decide_eq_true rfl) Spl.z)) rfl p1 dn ?_)
        clear hS; intro w37 hS
        refine wnil ?_
        refine xn ?_
        refine cseq ?_
        refine creg ?_
        refine wl (s_move (et d0) (dt (q70 p2)) ?_)
        rcases bTe h with ⟨e_,g162,rfl⟩ | ⟨r161,g162,h⟩
        · refine wl (s_callte isfn27 ef (e1 (et (k70 d2)) e0) ((ParS_sound fu).p_body (hg.t (le21.t (le24.t (le68.t (le107.t (le114.t (le120.t (le132.t (le135.t (le141.t (le148.t (le151.t le157)))))))))))) m160 g162 hS) ?_)
          rintro w_ ⟨μ_,v0_,v1_,i_,le_,hS⟩
          replace hS:=Sep.dropL (l:=[_,_]) hS
          exact thN (P:=Tryd.prog) (fn:=Tryd.f11) ⟨_,_,_,_,((le21.t (le24.t (le68.t (le107.t (le114.t (le120.t (le132.t (le135.t (le141.t (le148.t (le151.t le157))))))))))).t le_),hS⟩
        refine wl (s_callv isfn27 ef (e1 (et (k70 d2)) e0) (((ParS_sound fu).p_body (hg.t (le21.t (le24.t (le68.t (le107.t (le114.t (le120.t (le132.t (le135.t (le141.t (le148.t (le151.t le157)))))))))))) m160 g162 hS).ok) ?_)
        rintro _ w38 ⟨μ24,a164,c165,a167,c168,rfl,le163,hS,m166,m169⟩
        refine pu (dt (q70 p3)) ?_
        refine wl (s_fa fa36_6 (et d7) rfl (dt (q70 p4)) ?_)
        refine wl (s_store1 ti34 (et (k70 d4)) (et (k70 d3)) rfl hS d1 p8 rfl p1 dn ?_)
        clear hS; intro w39 hS
        refine wnil ?_
        refine xn ?_
        refine cseq ?_
        refine creg ?_
        refine wl (s_loads ti36 (et d7) (hS.blk d1).cells rfl (dt (q70 p5)) ?_)
        refine wl (s_storeA ti36 (et d2) (et (k70 d5)) rfl rfl hS d2 rfl p2 dn ?_)
        clear hS; intro w40 hS
        refine wnil ?_
        refine xn ?_
        refine cret ?_
        refine (fun h=>br (xr h)) ?_
        obtain rfl:=oI h
        refine okT ?_
        refine retN rfl (RVs.s (.a d2 ti36 (hS.blk d2).cells rfl) RVs.z) ?_
        replace hS:=hS.drop (Rm.s Rm.z)
        replace hS:=hS.drop (Rm.s Rm.z)
        exact ⟨_,a121,c122,a164,c165,a167,c168,rfl,(le21.t (le24.t (le68.t (le107.t (le114.t (le120.t (le132.t (le135.t (le141.t (le148.t (le151.t (le157.t le163)))))))))))),hS,(m123.up (le132.t (le135.t (le141.t (le148.t (le151.t (le157.t le163))))))),m166,m169⟩
      · replace h:=iF h111 h
        refine cseq ?_
        refine creg ?_
        refine wl (s_move (et d0) (dt (q70 p7)) ?_)
        replace h:=bI h; obtain ⟨r170,g171,h⟩:=h
        refine wl (s_callv isfn21 ef (e1 (et (k70 d7)) (e1 ec e0)) (p_is_w (hg.t (le21.t (le24.t (le68.t le107)))) m110 g171 hS) ?_)
        rintro _ w41 ⟨μ25,a173,c174,rfl,le172,hS,m175⟩
        refine pu (dt (q70 p8)) ?_
        refine wl (s_assign (et (k70 d8)) (dt (q70 p6)) ?_)
        refine wnil ?_
        refine xn ?_
        refine cifb (et (k70 d6)) (fun h176=>?_) (fun h176=>?_)
        · replace h:=iT h176 h
          refine cseq ?_
          refine creg ?_
          refine wl (s_move (et d0) (dt (q70 p9)) ?_)
          rcases bTe h with ⟨e_,g178,rfl⟩ | ⟨r177,g178,h⟩
          · refine wl (s_callte isfn22 ef (e1 (et (k70 d9)) e0) (p_name_w (hg.t (le21.t (le24.t (le68.t (le107.t le172))))) m175 g178 hS) ?_)
            rintro w_ ⟨μ_,v0_,v1_,i_,le_,hS⟩
            replace hS:=Sep.dropL (l:=[_]) hS
            exact thN (P:=Tryd.prog) (fn:=Tryd.f11) ⟨_,_,_,_,((le21.t (le24.t (le68.t (le107.t le172)))).t le_),hS⟩
          refine wl (s_callv isfn22 ef (e1 (et (k70 d9)) e0) ((p_name_w (hg.t (le21.t (le24.t (le68.t (le107.t le172))))) m175 g178 hS).ok) ?_)
          rintro _ w42 ⟨μ26,a180,c181,rfl,le179,hS,m182⟩
          refine pu (dt (q80 p0)) ?_
          refine wl (s_move (et d0) (dt (q80 p1)) ?_)
          rcases bTe h with ⟨e_,g184,rfl⟩ | ⟨r183,g184,h⟩
          · refine wl (s_callte isfn27 ef (e1 (et (k80 d1)) e0) ((ParS_sound fu).p_body (hg.t (le21.t (le24.t (le68.t (le107.t (le172.t le179)))))) m182 g184 hS) ?_)
            rintro w_ ⟨μ_,v0_,v1_,i_,le_,hS⟩
            replace hS:=Sep.dropL (l:=[_]) hS
            exact thN (P:=Tryd.prog) (fn:=Tryd.f11) ⟨_,_,_,_,((le21.t (le24.t (le68.t (le107.t (le172.t le179))))).t le_),hS⟩
          refine wl (s_callv isfn27 ef (e1 (et (k80 d1)) e0) (((ParS_sound fu).p_body (hg.t (le21.t (le24.t (le68.t (le107.t (le172.t le179)))))) m182 g184 hS).ok) ?_)
          rintro _ w43 ⟨μ27,a186,c187,a189,c190,rfl,le185,hS,m188,m191⟩
          refine pu (dt (q80 p2)) ?_
          refine wl (s_build ti36 pl36 (Fl.o rfl ec rfl rfl p0 (Fl.o rfl (et (k80 d0)) rfl rfl p1 (Fl.o rfl (et (k80 d2)) rfl rfl p8 Fl.z))) (dt (q80 p3)) ?_)
          refine wl (s_storeA ti36 (et d2) (et (k80 d3)) rfl rfl hS d1 rfl p1 dn ?_)
          clear hS; intro w44 hS
          refine wnil ?_
          refine xn ?_
          refine cret ?_
          refine (fun h=>br (xr h)) ?_
          obtain rfl:=oI h
          refine okT ?_
          refine retN rfl (RVs.s (.a d2 ti36 (hS.blk d1).cells rfl) RVs.z) ?_
          replace hS:=hS.drop (Rm.s Rm.z)
          exact ⟨_,none,0,a186,c187,a189,c190,rfl,(le21.t (le24.t (le68.t (le107.t (le172.t (le179.t le185)))))),hS,Sl.nil,m188,m191⟩
        · replace h:=iF h176 h
          refine cskip ?_
          refine (fun h=>bn (xn h)) ?_
          refine cseq ?_
          refine creg ?_
          refine wl (s_move (et d0) (dt (q80 p4)) ?_)
          refine wl (s_move (et d3) (dt (q80 p5)) ?_)
          obtain rfl:=oI h
          refine wl (s_callte isfn9 ef (e1 (et (k80 d4)) (e1 ec (e1 (et (k80 d5)) e0))) (p_fail_w (R:=fun (_:Unit) _ _=>True) hS) ?_)
          rintro w_ ⟨μ_,v0_,v1_,i_,le_,hS⟩
          replace hS:=Sep.dropL (l:=[_]) hS
          exact thN (P:=Tryd.prog) (fn:=Tryd.f11) ⟨_,_,_,_,((le21.t (le24.t (le68.t (le107.t le172)))).t le_),hS⟩
end Go.Proofs.YtbdiobhgejmgoaaDoor
set_option maxRecDepth 100000
namespace Go.Proofs.YtbdiobhgejmgoaaDoor
open Go.Wk Go.Xt Go.Y Go.RowKit
theorem p_done_ret (v0 v1:Value) (w:World) :
    CallsD Tryd.prog 8 #[v0,v1] .returning w fun e u' w'=>e=.returned (.tuple #[])∧u'=.returning∧w'=w:=by
  refine callsD_of_wpS Tryd.func8 rfl fun c₀ cs hu=>?_
  apply wpS_seq
  apply wpS_region
  simp [wpOpsS,go_sem,recoverD,hu,Tryd.ntmps8,Exit.thenS]
  refine wpS_of_wp (CW.out (fr:=[v0,v1,undef,undef,undef,.nilIface,undef,undef,undef,undef,undef,undef,undef]) (ds:=[]) ?_)
  refine cblock ?_
  refine cseq ?_
  refine creg ?_
  refine wl (s_eqni Tryd.underlying20 (et d5) (.inl ⟨rfl,rfl⟩) (dt p7) ?_)
  refine wnil ?_
  refine xn ?_
  refine cift (et d7) ?_
  refine creg ?_
  refine wl (s_assign (et d5) (dt p2) ?_)
  refine wnil ?_
  refine bn ?_
  cases c₀
  simp_all [F,bodyPostS,results,Tryd.results8]
theorem p_done_w {μ0:M} {w0 w:World} {rsF:List Res} {v0 v1:Value} {r:Unit} (hg:Le Gm μ0) (h:p_done=some r) (hS:Sq μ0 w0 w rsF):CallsDR Tryd.prog 8 [v0,v1] w (fun v w'=>∃ μ':M,v=.tuple ⟨[]⟩∧Le μ0 μ'∧Sq μ' w0 w' rsF) :=
  ⟨(p_done_ret v0 v1 w).mono fun e u' w' he=>by
    obtain ⟨rfl,rfl,rfl⟩:=he
    exact ⟨rfl,_,rfl,Le.r,hS⟩⟩
end Go.Proofs.YtbdiobhgejmgoaaDoor
set_option maxRecDepth 100000
set_option maxHeartbeats 20000000
namespace Go.Proofs.YtbdiobhgejmgoaaDoor
open Go.Wk Go.Xt Go.Y
theorem syn_read_w {fu:Nat} {μ0:M} {w0 w:World} {rsF:List Res} (hg:Le Gm μ0) {p_1:List UInt8} {r:List TDef×TFault}  (h:syn_read fu p_1=some r) (hS:Sq μ0 w0 w (rsF)):CallsV Tryd.prog 5 [S p_1] w (fun v w'=>∃ (μ':M) (a1:Option Addr) (c2:Nat),v=.tuple ⟨[.slice a1 r.1.length c2,.agg ⟨[.int .i64 r.2.Err,.int .i64 r.2.At]⟩]⟩∧Le μ0 μ'∧Sq μ' w0 w' (rsF)∧Sl μ' a1 c2 r.1):=by
  unfold syn_read at h
  refine enterFR Tryd.func5 rfl (frm:=[_,_,_,_,_,_,_,_,_,_,_,_,_,_,_,_,_,_,_,_,_,_,_,_,_,_,_,_,_,_,_,_,_,_,_,_,_,_,_,_,_,_,_,_,_,_,_,_,_,_]) rfl ?_
  refine cseq ?_
  refine creg ?_
  refine wl (s_alloc ti23 hS ?_); clear hS; intro b4 w1 hb5 hS; refine pu (dt p2) ?_
  refine wl (s_alloc ti26 hS ?_); clear hS; intro b6 w2 hb7 hS; refine pu (dt p3) ?_
  refine wnil ?_
  refine xn ?_
  refine cseq ?_
  refine creg ?_
  refine wl (s_move (et d0) (dt p8) ?_)
  replace h:=bI h; obtain ⟨r8,g9,h⟩:=h
  refine wl (s_callv isfn7 ef (e1 (et d8) e0) (lex_tokens_w hg g9 hS) ?_)
  rintro _ w3 ⟨μ1,a11,c12,rfl,le10,hS,m13⟩
  refine pu (dt p9) ?_
  refine wl (s_move (et d9) (dt p7) ?_)
  refine wl (s_extr (et d7) d0 (dt (q10 p0)) ?_)
  refine wl (s_extr (et d7) d1 (dt (q10 p1)) ?_)
  refine wl (s_assign (et (k10 d0)) (dt p4) ?_)
  refine wl (s_storeA ti26 (et d3) (et (k10 d1)) rfl rfl hS d0 rfl p0 dn ?_)
  clear hS; intro w4 hS
  refine wnil ?_
  refine xn ?_
  refine cseq ?_
  refine cseq ?_
  refine creg ?_
  refine wl (s_fa fa26_0 (et d3) rfl (dt (q10 p2)) ?_)
  refine wl (s_load ti24 (et (k10 d2)) ((hS.blk d0).cell d0) (dt (q10 p3)) ?_)
  refine wl (s_nei (et (k10 d3)) ec (dt (q10 p4)) ?_)
  refine wnil ?_
  refine xn ?_
  refine cifd (et (k10 d4)) (fun h14=>?_) (fun h14=>?_)
  · replace h:=iT h14 h
    refine cseq ?_
    refine ccutE ([15]) (by decide) (fun m w=>∃ (μx:M) ,m=(yK10 (yK5 (yO1 15 [])))∧syn_read_j1 r8 =some r∧Le μ1 μx∧Sq μx w0 w (.blk b4 23 [.slice none 0 0]::.blk b6 26 [.int .i64 r8.2.Err,.int .i64 r8.2.At]::rsF)) (by rintro _ _ ⟨_,rfl,_⟩; rfl) ?_ ?_
    · refine cdraw (by kernel_rfl) rfl fun w5 hh_ ho_ ht_ hu_=>?_
      replace hS:=hS.drew hh_ ho_ ht_ hu_
      refine sf_start ?_
      refine sf_rd (i:=0) [0,2] (fun _ _ _ _ _ h=>blR rfl h) rfl rfl rfl (u_loads ti26 (et d3) (hS.blk d0).cells rfl) (q10 p5) ?_
      refine sf1 rfl rfl rfl rfl (wn0 rfl) (s_store1 ti23 (et d2) ec rfl hS d1 p0 rfl p1 dn ?_)
      clear hS; intro w6 hS
      refine ⟨(Mons.s (u_loads ti26 (et d3) (hS.blk d0).cells rfl) Mons.z),?_⟩
      refine sf1 rfl rfl rfl rfl (wn0 rfl) (s_storeA ti26 (et d3) (et (k10 d5)) rfl rfl hS d0 rfl p0 dn ?_)
      clear hS; intro w7 hS
      refine ⟨Mons.z,?_⟩
      refine sf_nil ?_
      refine xl ?_
      replace hS:=hS.bg (Bg.s Bg.z)
      exact ⟨_,_,rfl,(aK10 (aK5 (aO1 aZ))),_,rfl,h,Le.r,hS⟩
    · rintro _ t w8 ⟨μ2,rfl,h,le15,hS⟩
      unfold syn_read_j1 at h
      refine nrm (mK10 (mK5 (mO1 mz))) ?_
      refine xn ?_
      refine cret ?_
      refine xr ?_
      refine okR ?_
      obtain rfl:=oI h
      refine retDN rfl (RVs.s (.c d2 ti23 ((hS.blk d0).cell d0)) (RVs.s (.a d3 ti26 (hS.blk d1).cells rfl) RVs.z)) ?_
      replace hS:=hS.drop Rm.z
      replace hS:=hS.drop Rm.z
      exact ⟨_,none,0,rfl,(le10.t le15),hS,Sl.nil⟩
  · replace h:=iF h14 h
    refine cskip ?_
    refine xn ?_
    refine cseq ?_
    refine creg ?_
    refine wl (s_mkfn e0 (e1 (et d2) (e1 (et d3) e0)) (dt (q10 p6)) ?_)
    refine wl (s_defer (et (k10 d6)) e0 dn ?_)
    refine wnil ?_
    refine xn ?_
    refine cseq ?_
    refine creg ?_
    refine wl (s_move (et d4) (dt (q10 p7)) ?_)
    refine wl (s_move (et d0) (dt (q10 p8)) ?_)
    refine wl (s_lens Tryd.underlying9 (et (k10 d8)) (dt (q10 p9)) ?_)
    refine wl (s_build ti49 pl49 (Fl.o rfl (et (k10 d7)) rfl rfl p0 (Fl.o rfl (et (k10 d9)) rfl rfl p1 Fl.z)) (dt (q20 p0)) ?_)
    refine wl (s_box (et (k20 d0)) rfl hS ?_); clear hS; intro b16 w9 hb17 hS; refine pu (dt (q20 p1)) ?_
    refine wl (s_assign (et (k20 d1)) (dt p5) ?_)
    refine wnil ?_
    refine xn ?_
    refine cseq ?_
    refine cblock ?_
    replace hS:=hS.nilRow 36 (Mo.sz TDef)
    replace hS:=hS.bg (Bg.s Bg.z)
    replace hS:=hS.bg (Bg.s (Bg.s Bg.z))
    replace hS:=hS.bg (Bg.s (Bg.s (Bg.s Bg.z)))
    refine cloopE (rg 22 18) (by decide) (fun n m w=>∃ (μx:M) (l43:List TToken) (a41:Option Addr) (c42:Nat) (i45:Int) (i46:Int) (l49:List TDef) (v47:Value) (cs48:List Value),m=(yK20 (yK2 (yO10 22 (yO8 32 []))))∧syn_read_l1 fu r8 n l43 i45 i46 l49=some r∧Le μ1 μx∧Sq μx w0 w (.blk b4 23 [v47]::.blk b6 26 [.int .i64 r8.2.Err,.int .i64 r8.2.At]::.blk b16 49 [.slice a41 l43.length c42,.int .i64 i45,.int .i64 i46]::.row v47 36 9 l49.length cs48::rsF)∧Sl μx a41 c42 l43∧Rw μx cs48 l49) (by rintro _ _ _ ⟨_,_,_,_,_,_,_,_,_,rfl,_⟩; rfl) _ _ (aK20 (aK2 (aO10 (aO8 aZ)))) ⟨_,r8.1,a11,c12,(p_1.length:Int),0,[],(.slice none 0 0),[],rfl,h,Le.r,hS,m13,Rw.nil⟩ ?_
    rintro n_1 _ t w10 ⟨μ3,l43,a41,c42,i45,i46,l49,v47,cs48,rfl,h,le73,hS,m74,m75⟩
    cases n_1 with
    | zero=>cases h
    | succ n_1 =>
    unfold syn_read_l1 at h
    refine cnrm (mK20 (mK2 (mO10 (mO8 mz)))) ?_
    refine cseq ?_
    refine cseq ?_
    refine creg ?_
    refine wl (s_move (et d5) (dt (q20 p2)) ?_)
    refine wl (s_nilck (et (k20 d2)) (dt (q20 p3)) ?_)
    refine wl (s_fa fa49_0 (et (k20 d3)) rfl (dt (q20 p4)) ?_)
    refine wl (s_load ti42 (et (k20 d4)) ((hS.blk d2).cell d0) (dt (q20 p5)) ?_)
    refine wl (s_lensl Tryd.underlying42 (et (k20 d5)) (dt (q20 p6)) ?_)
    refine wl (s_gtr (et (k20 d6)) ec (dt (q20 p7)) ?_)
    refine wnil ?_
    refine xn ?_
    refine cifd (et (k20 d7)) (fun h76=>?_) (fun h76=>?_)
    · replace h:=iT h76 h
      refine cskip ?_
      refine xn ?_
      refine cblock ?_
      refine cseq ?_
      refine cseq ?_
      refine creg ?_
      refine wl (s_load ti23 (et d2) ((hS.blk d0).cell d0) (dt (q20 p8)) ?_)
      refine wl (s_lenv Tryd.underlying23 (et (k20 d8)) (hS.get d3).isSl (dt (q20 p9)) ?_)
      refine wl (s_eqi (et (k20 d9)) ec (dt (q30 p0)) ?_)
      refine wnil ?_
      refine xn ?_
      refine cifd (et (k30 d0)) (fun h77=>?_) (fun h77=>?_)
      · replace h:=iT h77 h
        refine creg ?_
        refine wl (s_move (et d5) (dt (q30 p1)) ?_)
        refine wl (s_move (et d5) (dt (q30 p2)) ?_)
        replace h:=bI h; obtain ⟨r78,g79,h⟩:=h
        replace hS:=hS.bg (Bg.s (Bg.s Bg.z))
        refine wl (s_callv isfn10 ef (e1 (et (k30 d2)) e0) (p_at_w (hg.t (le10.t le73)) m74 g79 hS) ?_)
        rintro _ w11 ⟨μ4,rfl,le80,hS⟩
        refine pu (dt (q30 p3)) ?_
        obtain rfl:=oI h
        refine wl (s_callte isfn9 ef (e1 (et (k30 d1)) (e1 ec (e1 (et (k30 d3)) e0))) (p_fail_w (R:=fun (_:Unit) _ _=>True) hS) ?_)
        rintro w_ ⟨μ_,v0_,v1_,i_,le_,hS⟩
        replace hS:=hS.bg (Bg.s (Bg.s Bg.z))
        replace hS:=hS.bg (Bg.s (Bg.s Bg.z))
        replace hS:=Sep.dropL2 (l:=[_,_]) hS
        refine thR isfn8 (p_rec_w hS) ?_; rintro w_ hS
        refine retDN rfl (RVs.s (.c d2 ti23 ((hS.blk d0).cell d0)) (RVs.s (.a d3 ti26 (hS.blk d1).cells rfl) RVs.z)) ?_
        replace hS:=(hS.drop Rm.z).drop Rm.z
        exact ⟨_,none,0,rfl,((le10.t (le73.t le80)).t le_),hS,Sl.nil⟩
      · replace h:=iF h77 h
        refine cskip ?_
        refine xn ?_
        refine ccutE (rg 35 5) (by decide) (fun m w=>∃ (μx:M) (l83:List TToken) (a81:Option Addr) (c82:Nat) (i85:Int) (i86:Int) (l89:List TDef) (v87:Value) (cs88:List Value),m=(yK20 (yK10 (yK5 (yO5 35 []))))∧syn_read_j2 (syn_read_l1 fu r8 n_1) l83 i85 i86 l89=some r∧Le μ3 μx∧Sq μx w0 w (.blk b4 23 [v87]::.blk b6 26 [.int .i64 r8.2.Err,.int .i64 r8.2.At]::.blk b16 49 [.slice a81 l83.length c82,.int .i64 i85,.int .i64 i86]::.row v87 36 9 l89.length cs88::rsF)∧Sl μx a81 c82 l83∧Rw μx cs88 l89) (by rintro _ _ ⟨_,_,_,_,_,_,_,_,_,rfl,_⟩; rfl) ?_ ?_
        · refine cdraw (by kernel_rfl) rfl fun w12 hh_ ho_ ht_ hu_=>?_
          replace hS:=hS.drew hh_ ho_ ht_ hu_
          refine sf_start ?_
          refine sf_rd (i:=0) [0,4,5] (fun _ _ _ _ _ h=>blR rfl h) rfl rfl rfl (u_load ti23 (et d2) ((hS.blk d0).cell d0)) (q30 p5) ?_
          refine sf_pu (i:=1) [1,2,3,4,5] (fun _ _ _ _ _ h=>blR rfl h) rfl rfl rfl (u_move (et d5)) (q30 p6) ?_
          replace hS:=hS.bg (Bg.s (Bg.s Bg.z))
          rcases bCe h with ⟨e_,g92,rfl⟩ | ⟨r91,g92,h⟩
          · refine sf1 rfl rfl rfl rfl (wn0 rfl) (s_callte isfn11 ef (e1 (et (k30 d6)) e0) (p_def_w (hg.t (le10.t le73)) m74 g92 hS) ?_)
            rintro w_ ⟨μ_,v0_,v1_,i_,le_,hS⟩
            replace hS:=hS.bg (Bg.s (Bg.s Bg.z))
            replace hS:=hS.bg (Bg.s (Bg.s Bg.z))
            replace hS:=Sep.dropL2 (l:=[_,_]) hS
            refine thR isfn8 (p_rec_w hS) ?_; rintro w_ hS
            refine retDN rfl (RVs.s (.c d2 ti23 ((hS.blk d0).cell d0)) (RVs.s (.a d3 ti26 (hS.blk d1).cells rfl) RVs.z)) ?_
            replace hS:=(hS.drop Rm.z).drop Rm.z
            exact ⟨_,none,0,rfl,((le10.t le73).t le_),hS,Sl.nil⟩
          refine sf1 rfl rfl rfl rfl (wn0 rfl) (s_callv isfn11 ef (e1 (et (k30 d6)) e0) ((p_def_w (hg.t (le10.t le73)) m74 g92 hS).ok) ?_)
          rintro _ w13 ⟨μ5,a94,c95,a97,c98,a100,c101,rfl,le93,hS,m96,m99,m102⟩
          refine pu (dt (q30 p7)) ?_
          refine ⟨(Mons.s (u_load ti23 (et d2) ((hS.blk d1).cell d0)) Mons.z),?_⟩
          refine sf1 rfl rfl rfl rfl (wn0 rfl) (s_bsl1 Tryd.underlying23 ti36 rfl (et (k30 d7)) rfl hS ?_); clear hS; intro b103 w14 hb104 hS; refine pu (dt (q30 p8)) ?_
          refine ⟨(Mons.s (u_load ti23 (et d2) ((hS.blk d2).cell d0)) Mons.z),?_⟩
          replace h:=bI h; obtain ⟨l107,g108,h⟩:=h
          have m109:Rw μ5 [.int .i64 r91.1.Kind,S r91.1.Name,.int .i64 r91.1.Typ.Kind,S r91.1.Typ.Gen,.int .i64 r91.1.Takes.Kind,S r91.1.Takes.Gen,.int .i64 r91.1.Cap,.slice a94 r91.1.Params.length c95,.slice a97 r91.1.Body.length c98] [r91.1]:=(Rw.one (α:=TDef) (⟨a94,c95,a97,c98,rfl,m96,m99⟩))
          have m106:=Rw.app (m75.up le93) m109 g108
          refine sf1 rfl rfl rfl rfl (wn0 rfl) (s_app1 Tryd.underlying23 ti36 rfl (et (k30 d5)) (et (k30 d8)) hS d4 (hS.blk d0).cells m109 rfl g108 (by decide) ?_); clear hS; intro v105 w15 rs_ hp_ hS; cases (show _=rs_ from hp_)
          replace hS:=Sep.reput hS p4; refine pu (dt (q30 p9)) ?_
          replace hS:=hS.drop Rm.z
          refine ⟨Mons.z,?_⟩
          refine sf1 rfl rfl rfl rfl (wn0 rfl) (s_store1 ti23 (et d2) (et (k30 d9)) (hS.get d3).cellV hS d1 p0 rfl p1 dn ?_)
          clear hS; intro w16 hS
          refine ⟨Mons.z,?_⟩
          refine sf_nil ?_
          refine xl ?_
          replace hS:=hS.bg (Bg.s (Bg.s (Bg.s Bg.z)))
          replace hS:=hS.bg (Bg.s Bg.z)
          replace hS:=hS.bg (Bg.s (Bg.s (Bg.s Bg.z)))
          replace hS:=hS.bg (Bg.s (Bg.s (Bg.s Bg.z)))
          exact ⟨_,_,rfl,(aK20 (aK10 (aK5 (aO5 aZ)))),_,r91.2.1,a100,c101,r91.2.2.1,r91.2.2.2,l107,v105,(cs48++[.int .i64 r91.1.Kind,S r91.1.Name,.int .i64 r91.1.Typ.Kind,S r91.1.Typ.Gen,.int .i64 r91.1.Takes.Kind,S r91.1.Takes.Gen,.int .i64 r91.1.Cap,.slice a94 r91.1.Params.length c95,.slice a97 r91.1.Body.length c98]),rfl,h,le93,hS,m102,m106⟩
        · rintro _ t w17 ⟨μ6,l83,a81,c82,i85,i86,l89,v87,cs88,rfl,h,le110,hS,m111,m112⟩
          unfold syn_read_j2 at h
          refine nrm (mK20 (mK10 (mK5 (mO5 mz)))) ?_
          refine (fun h=>bn (xl h)) ?_
          exact ⟨n_1,_,_,rfl,(aK20 (aK2 (aO10 (aO8 aZ)))),⟨_,l83,a81,c82,i85,i86,l89,v87,cs88,rfl,h,(le73.t le110),hS,m111,m112⟩,Nat.lt_succ_self _⟩
    · replace h:=iF h76 h
      refine cexit ?_
      refine (fun h=>xe (xe (bh h))) ?_
      refine xn ?_
      refine cseq ?_
      refine cseq ?_
      refine creg ?_
      refine wl (s_load ti23 (et d2) ((hS.blk d0).cell d0) (dt (q40 p0)) ?_)
      replace hS:=hS.bg (Bg.s (Bg.s (Bg.s Bg.z)))
      obtain ⟨μ7,a113,c114,e117,le116,m115,hq_⟩:=Sep.frzRow hS m75 rfl; clear hS
      subst e117; have hS:=hq_; clear hq_
      replace h:=bI h; obtain ⟨r118,g119,h⟩:=h
      refine wl (s_callv isfn12 ef (e1 (et (k40 d0)) e0) (syn_wrong_w (hg.t (le10.t (le73.t le116))) m115 g119 hS) ?_)
      rintro _ w18 ⟨μ8,rfl,le120,hS⟩
      refine pu (dt (q40 p1)) ?_
      refine wl (s_alloc ti26 hS ?_); clear hS; intro b121 w19 hb122 hS; refine pu (dt p6) ?_
      refine wl (s_storeA ti26 (et d6) (et (k40 d1)) rfl rfl hS d0 rfl p0 dn ?_)
      clear hS; intro w20 hS
      refine wnil ?_
      refine xn ?_
      refine cseq ?_
      refine creg ?_
      refine wl (s_fa fa26_0 (et d6) rfl (dt (q40 p2)) ?_)
      refine wl (s_load ti24 (et (k40 d2)) ((hS.blk d0).cell d0) (dt (q40 p3)) ?_)
      refine wl (s_nei (et (k40 d3)) ec (dt (q40 p4)) ?_)
      refine wnil ?_
      refine xn ?_
      refine cifd (et (k40 d4)) (fun h123=>?_) (fun h123=>?_)
      · replace h:=iT h123 h
        refine cseq ?_
        refine ccutE (rg 45 3) (by decide) (fun m w=>∃ (μx:M) ,m=(yK20 (yK20 (yK5 (yO3 45 []))))∧syn_read_j3 r118 =some r∧Le μ8 μx∧Sq μx w0 w (.blk b4 23 [.slice none 0 0]::.blk b6 26 [.int .i64 r118.Err,.int .i64 0]::rsF)) (by rintro _ _ ⟨_,rfl,_⟩; rfl) ?_ ?_
        · refine cdraw (by kernel_rfl) rfl fun w21 hh_ ho_ ht_ hu_=>?_
          replace hS:=hS.drew hh_ ho_ ht_ hu_
          refine sf_start ?_
          refine sf_pu (i:=0) [0,1,2,4] (fun _ _ _ _ _ h=>blR rfl h) rfl rfl rfl (u_fa fa26_0 (et d6) rfl) (q40 p5) ?_
          refine sf_rd (i:=1) [1,2,4] (fun _ _ _ _ _ h=>blR rfl h) rfl rfl rfl (u_load ti24 (et (k40 d5)) ((hS.blk d0).cell d0)) (q40 p6) ?_
          refine sf_pu (i:=2) [2,4] (fun _ _ _ _ _ h=>blR rfl h) rfl rfl rfl (u_build ti26 pl26 (Fl.o rfl (et (k40 d6)) rfl rfl p0 Fl.z)) (q40 p7) ?_
          refine sf1 rfl rfl rfl rfl (wn0 rfl) (s_store1 ti23 (et d2) ec rfl hS d1 p0 rfl p1 dn ?_)
          clear hS; intro w22 hS
          refine ⟨(Mons.s (u_load ti24 (et (k40 d5)) ((hS.blk d0).cell d0)) Mons.z),?_⟩
          refine sf1 rfl rfl rfl rfl (wn0 rfl) (s_storeA ti26 (et d3) (et (k40 d7)) rfl rfl hS d2 rfl p2 dn ?_)
          clear hS; intro w23 hS
          refine ⟨Mons.z,?_⟩
          refine sf_nil ?_
          refine xl ?_
          replace hS:=hS.drop Rm.z
          replace hS:=hS.drop (Rm.s (Rm.s Rm.z))
          exact ⟨_,_,rfl,(aK20 (aK20 (aK5 (aO3 aZ)))),_,rfl,h,Le.r,hS⟩
        · rintro _ t w24 ⟨μ9,rfl,h,le124,hS⟩
          unfold syn_read_j3 at h
          refine nrm (mK20 (mK20 (mK5 (mO3 mz)))) ?_
          refine xn ?_
          refine cret ?_
          refine xr ?_
          refine okR ?_
          replace h:=bI h; obtain ⟨r125,g126,h⟩:=h
          refine retDr isfn8 (p_done_w (hg.t (le10.t (le73.t (le116.t (le120.t le124))))) g126 hS) ?_
          rintro _ w25 ⟨μ10,rfl,le127,hS⟩
          obtain rfl:=oI h
          refine retDN rfl (RVs.s (.c d2 ti23 ((hS.blk d0).cell d0)) (RVs.s (.a d3 ti26 (hS.blk d1).cells rfl) RVs.z)) ?_
          replace hS:=hS.drop Rm.z
          replace hS:=hS.drop Rm.z
          exact ⟨_,none,0,rfl,(le10.t (le73.t (le116.t (le120.t (le124.t le127))))),hS,Sl.nil⟩
      · replace h:=iF h123 h
        refine cskip ?_
        refine xn ?_
        refine cseq ?_
        refine ccutE (rg 48 2) (by decide) (fun m w=>∃ (μx:M) ,m=(yK20 (yK20 (yK8 (yO2 48 []))))∧syn_read_j4 r8 l49 =some r∧Le μ8 μx∧Sq μx w0 w (.blk b4 23 [.slice a113 l49.length c114]::.blk b6 26 [.int .i64 r8.2.Err,.int .i64 r8.2.At]::rsF)) (by rintro _ _ ⟨_,rfl,_⟩; rfl) ?_ ?_
        · refine cdraw (by kernel_rfl) rfl fun w26 hh_ ho_ ht_ hu_=>?_
          replace hS:=hS.drew hh_ ho_ ht_ hu_
          refine sf_start ?_
          refine sf_rd (i:=0) [0,2,3] (fun _ _ _ _ _ h=>blR rfl h) rfl rfl rfl (u_load ti23 (et d2) ((hS.blk d1).cell d0)) (q40 p8) ?_
          refine sf_rd (i:=1) [1,3] (fun _ _ _ _ _ h=>blR rfl h) rfl rfl rfl (u_loads ti26 (et d3) (hS.blk d2).cells rfl) (q40 p9) ?_
          refine sf1 rfl rfl rfl rfl (wn0 rfl) (s_store1 ti23 (et d2) (et (k40 d8)) rfl hS d1 p0 rfl p1 dn ?_)
          clear hS; intro w27 hS
          refine ⟨(Mons.s (u_loads ti26 (et d3) (hS.blk d2).cells rfl) Mons.z),?_⟩
          refine sf1 rfl rfl rfl rfl (wn0 rfl) (s_storeA ti26 (et d3) (et (k40 d9)) rfl rfl hS d2 rfl p2 dn ?_)
          clear hS; intro w28 hS
          refine ⟨Mons.z,?_⟩
          refine sf_nil ?_
          refine xl ?_
          replace hS:=hS.drop Rm.z
          replace hS:=hS.drop (Rm.s (Rm.s Rm.z))
          exact ⟨_,_,rfl,(aK20 (aK20 (aK8 (aO2 aZ)))),_,rfl,h,Le.r,hS⟩
        · rintro _ t w29 ⟨μ11,rfl,h,le128,hS⟩
          unfold syn_read_j4 at h
          refine nrm (mK20 (mK20 (mK8 (mO2 mz)))) ?_
          refine xn ?_
          refine cret ?_
          refine okR ?_
          replace h:=bI h; obtain ⟨r129,g130,h⟩:=h
          refine retDr isfn8 (p_done_w (hg.t (le10.t (le73.t (le116.t (le120.t le128))))) g130 hS) ?_
          rintro _ w30 ⟨μ12,rfl,le131,hS⟩
          obtain rfl:=oI h
          refine retDN rfl (RVs.s (.c d2 ti23 ((hS.blk d0).cell d0)) (RVs.s (.a d3 ti26 (hS.blk d1).cells rfl) RVs.z)) ?_
          replace hS:=hS.drop Rm.z
          replace hS:=hS.drop Rm.z
          exact ⟨_,a113,c114,rfl,(le10.t (le73.t (le116.t (le120.t (le128.t le131))))),hS,(m115.up (le120.t (le128.t le131)))⟩
end Go.Proofs.YtbdiobhgejmgoaaDoor
