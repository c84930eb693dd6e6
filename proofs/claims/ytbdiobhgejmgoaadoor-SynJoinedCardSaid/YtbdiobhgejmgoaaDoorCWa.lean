/- Texts of Wa. -/
import Derived.Test.YtbdiobhgejmgoaaDoorCMd
import Derived.Test.YtbdiobhgejmgoaaDoorCFl
import Derived.Test.YtbdiobhgejmgoaaDoorCXu
import Derived.Tactics2
import Derived.Recover
import Derived.WalkSmall
import Derived.Laws.Build
set_option linter.unusedSimpArgs false
set_option linter.unusedVariables false
set_option linter.unusedSectionVars false
set_option maxRecDepth 100000
set_option maxHeartbeats 20000000
namespace Go.Proofs.YtbdiobhgejmgoaaDoor
open Go.Wk Go.Xt Go.Y
theorem lx_letter_w {μ0:M} {w0 w:World} {rsF:List Res} (hg:Le Gm μ0) {p_1:UInt8} {r:Bool}  (h:lx_letter p_1=some r) (hS:Sq μ0 w0 w (rsF)):CallsV Tryd.prog 15 [.int .u8 (p_1.toNat:Int)] w (fun v w'=>∃ (μ':M) ,v=.bool r∧Le μ0 μ'∧Sq μ' w0 w' (rsF)):=by
  unfold lx_letter at h
  refine enter Tryd.func15 rfl (frm:=[_,_,_,_,_,_,_,_,_,_,_,_,_]) rfl ?_
  refine cseq ?_
  refine creg ?_
  refine wl (s_assign ec (dt p2) ?_)
  refine wnil ?_
  refine xn ?_
  refine cseq ?_
  refine creg ?_
  refine wl (s_move (et d0) (dt p3) ?_)
  refine wl (s_geq (et d3) ec (dt p4) ?_)
  refine wl (s_move (et d4) (dt p5) ?_)
  refine wspd d5 p5 p5 (fun h1=>?_) (fun h1=>?_)
  · replace h:=iT h1 h
    refine wy rfl d5 (s_move (et d0) (dt p6) ?_)
    refine wy rfl d5 (s_leq (et d6) ec (dt p7) ?_)
    refine wl (s_pickt (et d5) (et d7) (dt p8) ?_)
    refine wl (s_move (et d8) (dt p9) ?_)
    refine wspd d9 p9 p9 (fun h2=>?_) (fun h2=>?_)
    · replace h:=iT h2 h
      refine wn rfl d9 rfl (dt (q10 p0)) ?_
      refine wn rfl d9 rfl (dt (q10 p1)) ?_
      refine wl (s_pickt (et d9) ec (dt (q10 p2)) ?_)
      refine wl (s_assign (et (k10 d2)) (dt p2) ?_)
      refine wnil ?_
      refine xn ?_
      refine cret ?_
      obtain rfl:=oI h
      refine ret1 rfl d2 ?_
      exact ⟨_,rfl,Le.r,hS⟩
    · replace h:=iF h2 h
      refine wy rfl d9 (s_move (et d0) (dt (q10 p0)) ?_)
      refine wy rfl d9 (s_eqi (et (k10 d0)) ec (dt (q10 p1)) ?_)
      refine wl (s_pickf (et d9) (et (k10 d1)) (dt (q10 p2)) ?_)
      refine wl (s_assign (et (k10 d2)) (dt p2) ?_)
      refine wnil ?_
      refine xn ?_
      refine cret ?_
      obtain rfl:=oI h
      refine ret1 rfl d2 ?_
      exact ⟨_,rfl,Le.r,hS⟩
  · replace h:=iF h1 h
    refine wn rfl d5 rfl (dt p6) ?_
    refine wn rfl d5 rfl (dt p7) ?_
    refine wl (s_pickf (et d5) ec (dt p8) ?_)
    refine wl (s_move (et d8) (dt p9) ?_)
    refine wy rfl d9 (s_move (et d0) (dt (q10 p0)) ?_)
    refine wy rfl d9 (s_eqi (et (k10 d0)) ec (dt (q10 p1)) ?_)
    refine wl (s_pickf (et d9) (et (k10 d1)) (dt (q10 p2)) ?_)
    refine wl (s_assign (et (k10 d2)) (dt p2) ?_)
    refine wnil ?_
    refine xn ?_
    refine cret ?_
    obtain rfl:=oI h
    refine ret1 rfl d2 ?_
    exact ⟨_,rfl,Le.r,hS⟩
theorem lx_digit_w {μ0:M} {w0 w:World} {rsF:List Res} (hg:Le Gm μ0) {p_1:UInt8} {r:Bool}  (h:lx_digit p_1=some r) (hS:Sq μ0 w0 w (rsF)):CallsV Tryd.prog 18 [.int .u8 (p_1.toNat:Int)] w (fun v w'=>∃ (μ':M) ,v=.bool r∧Le μ0 μ'∧Sq μ' w0 w' (rsF)):=by
  unfold lx_digit at h
  refine enter Tryd.func18 rfl (frm:=[_,_,_,_,_,_,_,_,_]) rfl ?_
  refine cseq ?_
  refine creg ?_
  refine wl (s_assign ec (dt p2) ?_)
  refine wnil ?_
  refine xn ?_
  refine cseq ?_
  refine creg ?_
  refine wl (s_move (et d0) (dt p3) ?_)
  refine wl (s_geq (et d3) ec (dt p4) ?_)
  refine wl (s_move (et d4) (dt p5) ?_)
  refine wspd d5 p5 p5 (fun h1=>?_) (fun h1=>?_)
  · replace h:=iT h1 h
    refine wy rfl d5 (s_move (et d0) (dt p6) ?_)
    refine wy rfl d5 (s_leq (et d6) ec (dt p7) ?_)
    refine wl (s_pickt (et d5) (et d7) (dt p8) ?_)
    refine wl (s_assign (et d8) (dt p2) ?_)
    refine wnil ?_
    refine xn ?_
    refine cret ?_
    obtain rfl:=oI h
    refine ret1 rfl d2 ?_
    exact ⟨_,rfl,Le.r,hS⟩
  · replace h:=iF h1 h
    refine wn rfl d5 rfl (dt p6) ?_
    refine wn rfl d5 rfl (dt p7) ?_
    refine wl (s_pickf (et d5) ec (dt p8) ?_)
    refine wl (s_assign (et d8) (dt p2) ?_)
    refine wnil ?_
    refine xn ?_
    refine cret ?_
    obtain rfl:=oI h
    refine ret1 rfl d2 ?_
    exact ⟨_,rfl,Le.r,hS⟩
theorem lx_while_w {fu:Nat} {μ0:M} {w0 w:World} {rsF:List Res} (hg:Le Gm μ0) {p_1:List UInt8} {K1:Nat} {caps2:List Value} {p_2:UInt8→Option Bool} {r:Int} (m3:FnOk Tryd.prog μ0 K1 caps2 false p_2) (h:lx_while fu p_1 p_2=some r) (hS:Sq μ0 w0 w (rsF)):CallsV Tryd.prog 16 [S p_1,.func (.func K1) ⟨[]⟩ ⟨caps2⟩] w (fun v w'=>∃ (μ':M) ,v=.int .i64 r∧Le μ0 μ'∧Sq μ' w0 w' (rsF)):=by
  unfold lx_while at h
  refine enter Tryd.func16 rfl (frm:=[_,_,_,_,_,_,_,_,_,_,_,_,_,_,_,_,_,_,_,_]) rfl ?_
  refine cseq ?_
  refine creg ?_
  refine wl (s_assign ec (dt p4) ?_)
  refine wnil ?_
  refine xn ?_
  refine cseq ?_
  refine creg ?_
  refine wl (s_assign ec (dt p5) ?_)
  refine wnil ?_
  refine xn ?_
  refine cseq ?_
  refine cblock ?_
  refine cloopE (rg 6 13) (by decide) (fun n m w=>∃ (μx:M) (i13:Int),m=(yK5 (.i (.int .i64 i13)::(yO10 6 (yO3 16 []))))∧lx_while_l1 p_1 p_2 n i13=some r∧Le μ0 μx∧Sq μx w0 w (rsF)) (by rintro _ _ _ ⟨_,_,rfl,_⟩; rfl) _ _ (aK5 (aI (aO10 (aO3 aZ)))) ⟨_,0,rfl,h,Le.r,hS⟩ ?_
  rintro n_1 _ t w1 ⟨μ1,i13,rfl,h,le23,hS⟩
  cases n_1 with
  | zero=>cases h
  | succ n_1 =>
  unfold lx_while_l1 at h
  refine cnrm (mK5 (mi (mO10 (mO3 mz)))) ?_
  refine cseq ?_
  refine cseq ?_
  refine ccutE (rg 6 10) (by decide) (fun m w=>∃ (μx:M) (b24:Bool),m=(yK6 (yO10 6 (.i (.bool b24)::[])))∧lx_while_j1 i13 (lx_while_l1 p_1 p_2 n_1) b24=some r∧Le μ1 μx∧Sq μx w0 w (rsF)) (by rintro _ _ ⟨_,_,rfl,_⟩; rfl) ?_ ?_
  · refine creg ?_
    refine wl (s_move (et d5) (dt p6) ?_)
    refine wl (s_move (et d0) (dt p7) ?_)
    refine wl (s_lens Tryd.underlying9 (et d7) (dt p8) ?_)
    refine wl (s_lss (et d6) (et d8) (dt p9) ?_)
    refine wl (s_move (et d9) (dt (q10 p0)) ?_)
    refine wspd (k10 d0) (q10 p0) (q10 p0) (fun h25=>?_) (fun h25=>?_)
    · replace h:=iT h25 h
      refine wy rfl (k10 d0) (s_move (et d1) (dt (q10 p1)) ?_)
      refine wy rfl (k10 d0) (s_move (et d0) (dt (q10 p2)) ?_)
      refine wy rfl (k10 d0) (s_move (et d5) (dt (q10 p3)) ?_)
      replace h:=bI h; obtain ⟨u26,g27,h⟩:=h
      refine wy rfl (k10 d0) (s_idxc Tryd.underlying9 (et (k10 d2)) (et (k10 d3)) g27 (dt (q10 p4)) ?_)
      replace h:=bI h; obtain ⟨b28,g29,h⟩:=h
      refine wy rfl (k10 d0) (s_callc m3.isfn (et (k10 d1)) (e1 (et (k10 d4)) e0) ((m3.up le23).call (cs:=[.int .u8 (u26.toNat:Int)]) Le.r rfl g29 hS) ?_)
      rintro _ w2 ⟨μ2,rfl,le30,hS⟩; refine pu (dt (q10 p5)) ?_
      refine wl (s_pickt (et (k10 d0)) (et (k10 d5)) (dt (q10 p6)) ?_)
      refine wnil ?_
      refine xl ?_
      exact ⟨_,_,rfl,(aK6 (aO10 (aI aZ))),_,b28,rfl,h,le30,hS⟩
    · replace h:=iF h25 h
      refine wn rfl (k10 d0) rfl (dt (q10 p1)) ?_
      refine wn rfl (k10 d0) rfl (dt (q10 p2)) ?_
      refine wn rfl (k10 d0) rfl (dt (q10 p3)) ?_
      refine wn rfl (k10 d0) rfl (dt (q10 p4)) ?_
      refine wn rfl (k10 d0) rfl (dt (q10 p5)) ?_
      refine wl (s_pickf (et (k10 d0)) ec (dt (q10 p6)) ?_)
      refine wnil ?_
      refine xl ?_
      exact ⟨_,_,rfl,(aK6 (aO10 (aI aZ))),_,false,rfl,h,Le.r,hS⟩
  · rintro _ t w3 ⟨μ3,b24,rfl,h,le31,hS⟩
    unfold lx_while_j1 at h
    refine nrm (mK6 (mO10 (mi mz))) ?_
    refine xn ?_
    refine cifb (et (k10 d6)) (fun h32=>?_) (fun h32=>?_)
    · replace h:=iT h32 h
      refine cskip ?_
      refine xn ?_
      refine cblock ?_
      refine creg ?_
      refine wl (s_move (et d5) (dt (q10 p7)) ?_)
      replace h:=bI h; obtain ⟨i33,g34,h⟩:=h
      refine wl (s_addc (et (k10 d7)) ec g34 (dt (q10 p8)) ?_)
      refine wl (s_assign (et (k10 d8)) (dt p5) ?_)
      refine wnil ?_
      refine (fun h=>bn (xl h)) ?_
      exact ⟨n_1,_,_,rfl,(aK5 (aI (aO10 (aO3 aZ)))),⟨_,i33,rfl,h,(le23.t le31),hS⟩,Nat.lt_succ_self _⟩
    · replace h:=iF h32 h
      refine cexit ?_
      refine (fun h=>xe (xe (bh h))) ?_
      refine xn ?_
      refine cseq ?_
      refine creg ?_
      refine wl (s_move (et d5) (dt (q10 p9)) ?_)
      refine wl (s_assign (et (k10 d9)) (dt p4) ?_)
      refine wnil ?_
      refine xn ?_
      refine cret ?_
      obtain rfl:=oI h
      refine ret1 rfl d4 ?_
      exact ⟨_,rfl,(le23.t le31),hS⟩
theorem lx_t1_w {μ0:M} {w0 w:World} {rsF:List Res} (hg:Le Gm μ0) {p_1:UInt8} {r:Bool}  (h:lx_t1 p_1=some r) (hS:Sq μ0 w0 w (rsF)):CallsV Tryd.prog 17 [.int .u8 (p_1.toNat:Int)] w (fun v w'=>∃ (μ':M) ,v=.bool r∧Le μ0 μ'∧Sq μ' w0 w' (rsF)):=by
  unfold lx_t1 at h
  refine enter Tryd.func17 rfl (frm:=[_,_,_,_,_,_,_,_,_]) rfl ?_
  refine cseq ?_
  refine creg ?_
  refine wl (s_assign ec (dt p2) ?_)
  refine wnil ?_
  refine xn ?_
  refine cseq ?_
  refine creg ?_
  refine wl (s_move (et d0) (dt p3) ?_)
  replace h:=bI h; obtain ⟨r1,g2,h⟩:=h
  refine wl (s_callv isfn15 ef (e1 (et d3) e0) (lx_letter_w hg g2 hS) ?_)
  rintro _ w1 ⟨μ1,rfl,le3,hS⟩
  refine pu (dt p4) ?_
  refine wl (s_move (et d4) (dt p5) ?_)
  refine wspb d5 p5 p5 (fun h4=>?_) (fun h4=>?_)
  · replace h:=iT h4 h
    refine wn rfl d5 rfl (dt p6) ?_
    refine wn rfl d5 rfl (dt p7) ?_
    refine wl (s_pickt (et d5) ec (dt p8) ?_)
    refine wl (s_assign (et d8) (dt p2) ?_)
    refine wnil ?_
    refine xn ?_
    refine cret ?_
    obtain rfl:=oI h
    refine ret1 rfl d2 ?_
    exact ⟨_,rfl,le3,hS⟩
  · replace h:=iF h4 h
    refine wy rfl d5 (s_move (et d0) (dt p6) ?_)
    replace h:=bI h; obtain ⟨r5,g6,h⟩:=h
    refine wy rfl d5 (s_callv isfn18 ef (e1 (et d6) e0) (lx_digit_w (hg.t le3) g6 hS) ?_)
    rintro _ w2 ⟨μ2,rfl,le7,hS⟩
    refine pu (dt p7) ?_
    refine wl (s_pickf (et d5) (et d7) (dt p8) ?_)
    refine wl (s_assign (et d8) (dt p2) ?_)
    refine wnil ?_
    refine xn ?_
    refine cret ?_
    obtain rfl:=oI h
    refine ret1 rfl d2 ?_
    exact ⟨_,rfl,(le3.t le7),hS⟩
theorem lx_s1_w {μ0:M} {w0 w:World} {rsF:List Res} (hg:Le Gm μ0) {p_1:UInt8} {r:Bool}  (h:lx_s1 p_1=some r) (hS:Sq μ0 w0 w (rsF)):CallsV Tryd.prog 30 [.int .u8 (p_1.toNat:Int)] w (fun v w'=>∃ (μ':M) ,v=.bool r∧Le μ0 μ'∧Sq μ' w0 w' (rsF)):=by
  unfold lx_s1 at h
  refine enter Tryd.func30 rfl (frm:=[_,_,_,_,_]) rfl ?_
  refine cseq ?_
  refine creg ?_
  refine wl (s_assign ec (dt p2) ?_)
  refine wnil ?_
  refine xn ?_
  refine cseq ?_
  refine creg ?_
  refine wl (s_move (et d0) (dt p3) ?_)
  refine wl (s_nei (et d3) ec (dt p4) ?_)
  refine wl (s_assign (et d4) (dt p2) ?_)
  refine wnil ?_
  refine xn ?_
  refine cret ?_
  obtain rfl:=oI h
  refine ret1 rfl d2 ?_
  exact ⟨_,rfl,Le.r,hS⟩
theorem lx_n1_w {μ0:M} {w0 w:World} {rsF:List Res} (hg:Le Gm μ0) {p_1:UInt8} {r:Bool}  (h:lx_n1 p_1=some r) (hS:Sq μ0 w0 w (rsF)):CallsV Tryd.prog 48 [.int .u8 (p_1.toNat:Int)] w (fun v w'=>∃ (μ':M) ,v=.bool r∧Le μ0 μ'∧Sq μ' w0 w' (rsF)):=by
  unfold lx_n1 at h
  refine enter Tryd.func48 rfl (frm:=[_,_,_,_,_,_,_,_,_]) rfl ?_
  refine cseq ?_
  refine creg ?_
  refine wl (s_assign ec (dt p2) ?_)
  refine wnil ?_
  refine xn ?_
  refine cseq ?_
  refine creg ?_
  refine wl (s_move (et d0) (dt p3) ?_)
  replace h:=bI h; obtain ⟨r1,g2,h⟩:=h
  refine wl (s_callv isfn15 ef (e1 (et d3) e0) (lx_letter_w hg g2 hS) ?_)
  rintro _ w1 ⟨μ1,rfl,le3,hS⟩
  refine pu (dt p4) ?_
  refine wl (s_move (et d4) (dt p5) ?_)
  refine wspb d5 p5 p5 (fun h4=>?_) (fun h4=>?_)
  · replace h:=iT h4 h
    refine wn rfl d5 rfl (dt p6) ?_
    refine wn rfl d5 rfl (dt p7) ?_
    refine wl (s_pickt (et d5) ec (dt p8) ?_)
    refine wl (s_assign (et d8) (dt p2) ?_)
    refine wnil ?_
    refine xn ?_
    refine cret ?_
    obtain rfl:=oI h
    refine ret1 rfl d2 ?_
    exact ⟨_,rfl,le3,hS⟩
  · replace h:=iF h4 h
    refine wy rfl d5 (s_move (et d0) (dt p6) ?_)
    replace h:=bI h; obtain ⟨r5,g6,h⟩:=h
    refine wy rfl d5 (s_callv isfn18 ef (e1 (et d6) e0) (lx_digit_w (hg.t le3) g6 hS) ?_)
    rintro _ w2 ⟨μ2,rfl,le7,hS⟩
    refine pu (dt p7) ?_
    refine wl (s_pickf (et d5) (et d7) (dt p8) ?_)
    refine wl (s_assign (et d8) (dt p2) ?_)
    refine wnil ?_
    refine xn ?_
    refine cret ?_
    obtain rfl:=oI h
    refine ret1 rfl d2 ?_
    exact ⟨_,rfl,(le3.t le7),hS⟩
theorem lx_hp0_w {μ0:M} {w0 w:World} {rsF:List Res} (hg:Le Gm μ0) {p_1:List UInt8} {p_2:List UInt8} {r:Bool}  (h:lx_hp0 p_1 p_2=some r) (hS:Sq μ0 w0 w (rsF)):CallsV Tryd.prog 46 [S p_1,S p_2] w (fun v w'=>∃ (μ':M) ,v=.bool r∧Le μ0 μ'∧Sq μ' w0 w' (rsF)):=by
  unfold lx_hp0 at h
  refine enter Tryd.func46 rfl (frm:=[_,_,_,_,_,_,_,_,_,_,_,_,_,_,_,_,_,_]) rfl ?_
  refine cseq ?_
  refine creg ?_
  refine wl (s_assign ec (dt p4) ?_)
  refine wnil ?_
  refine xn ?_
  refine cseq ?_
  refine creg ?_
  refine wl (s_move (et d0) (dt p5) ?_)
  refine wl (s_lens Tryd.underlying9 (et d5) (dt p6) ?_)
  refine wl (s_move (et d1) (dt p7) ?_)
  refine wl (s_lens Tryd.underlying9 (et d7) (dt p8) ?_)
  refine wl (s_geq (et d6) (et d8) (dt p9) ?_)
  refine wl (s_move (et d9) (dt (q10 p0)) ?_)
  refine wspd (k10 d0) (q10 p0) (q10 p0) (fun h1=>?_) (fun h1=>?_)
  · replace h:=iT h1 h
    refine wy rfl (k10 d0) (s_move (et d0) (dt (q10 p1)) ?_)
    refine wy rfl (k10 d0) (s_move (et d1) (dt (q10 p2)) ?_)
    refine wy rfl (k10 d0) (s_lens Tryd.underlying9 (et (k10 d2)) (dt (q10 p3)) ?_)
    replace h:=bI h; obtain ⟨s2,g3,h⟩:=h
    refine wy rfl (k10 d0) (s_cuthic Tryd.underlying9 (et (k10 d1)) (et (k10 d3)) g3 (dt (q10 p4)) ?_)
    refine wy rfl (k10 d0) (s_move (et d1) (dt (q10 p5)) ?_)
    refine wy rfl (k10 d0) (s_eqs (et (k10 d4)) (et (k10 d5)) (dt (q10 p6)) ?_)
    refine wl (s_pickt (et (k10 d0)) (et (k10 d6)) (dt (q10 p7)) ?_)
    refine wl (s_assign (et (k10 d7)) (dt p4) ?_)
    refine wnil ?_
    refine xn ?_
    refine cret ?_
    obtain rfl:=oI h
    refine ret1 rfl d4 ?_
    exact ⟨_,rfl,Le.r,hS⟩
  · replace h:=iF h1 h
    refine wn rfl (k10 d0) rfl (dt (q10 p1)) ?_
    refine wn rfl (k10 d0) rfl (dt (q10 p2)) ?_
    refine wn rfl (k10 d0) rfl (dt (q10 p3)) ?_
    refine wn rfl (k10 d0) rfl (dt (q10 p4)) ?_
    refine wn rfl (k10 d0) rfl (dt (q10 p5)) ?_
    refine wn rfl (k10 d0) rfl (dt (q10 p6)) ?_
    refine wl (s_pickf (et (k10 d0)) ec (dt (q10 p7)) ?_)
    refine wl (s_assign (et (k10 d7)) (dt p4) ?_)
    refine wnil ?_
    refine xn ?_
    refine cret ?_
    obtain rfl:=oI h
    refine ret1 rfl d4 ?_
    exact ⟨_,rfl,Le.r,hS⟩
theorem lx_hp_w {μ0:M} {w0 w:World} {rsF:List Res} (hg:Le Gm μ0) {p_1:List UInt8} {p_2:List UInt8} {r:Bool}  (h:lx_hp p_1 p_2=some r) (hS:Sq μ0 w0 w (rsF)):CallsV Tryd.prog 33 [S p_1,S p_2] w (fun v w'=>∃ (μ':M) ,v=.bool r∧Le μ0 μ'∧Sq μ' w0 w' (rsF)):=by
  unfold lx_hp at h
  refine enter Tryd.func33 rfl (frm:=[_,_,_,_,_,_,_,_]) rfl ?_
  refine cseq ?_
  refine creg ?_
  refine wl (s_assign ec (dt p4) ?_)
  refine wnil ?_
  refine xn ?_
  refine cseq ?_
  refine creg ?_
  refine wl (s_move (et d0) (dt p5) ?_)
  refine wl (s_move (et d1) (dt p6) ?_)
  replace h:=bI h; obtain ⟨r1,g2,h⟩:=h
  refine wl (s_callv isfn46 ef (e1 (et d5) (e1 (et d6) e0)) (lx_hp0_w hg g2 hS) ?_)
  rintro _ w1 ⟨μ1,rfl,le3,hS⟩
  refine pu (dt p7) ?_
  refine wl (s_assign (et d7) (dt p4) ?_)
  refine wnil ?_
  refine xn ?_
  refine cret ?_
  obtain rfl:=oI h
  refine ret1 rfl d4 ?_
  exact ⟨_,rfl,le3,hS⟩
theorem lx_sign_w {μ0:M} {w0 w:World} {rsF:List Res} (hg:Le Gm μ0) {p_1:List UInt8} {r:List UInt8}  (h:lx_sign p_1=some r) (hS:Sq μ0 w0 w (rsF)):CallsV Tryd.prog 20 [S p_1] w (fun v w'=>∃ (μ':M) ,v=S r∧Le μ0 μ'∧Sq μ' w0 w' (rsF)):=by
  unfold lx_sign at h
  refine enter Tryd.func20 rfl (frm:=[_,_,_,_,_,_,_,_,_,_,_,_,_,_,_,_]) rfl ?_
  refine cseq ?_
  refine creg ?_
  refine wl (s_assign ec (dt p2) ?_)
  refine wnil ?_
  refine xn ?_
  refine cseq ?_
  refine cseq ?_
  refine creg ?_
  refine wl (s_bsl Tryd.underlying81 ti9 (Parts.s ec rfl (Parts.s ec rfl (Parts.s ec rfl (Parts.s ec rfl (Parts.s ec rfl (Parts.s ec rfl (Parts.s ec rfl (Parts.s ec rfl (Parts.s ec rfl (Parts.s ec rfl (Parts.s ec rfl (Parts.s ec rfl (Parts.s ec rfl (Parts.s ec rfl (Parts.s ec rfl (Parts.s ec rfl (Parts.s ec rfl (Parts.s ec rfl Parts.z)))))))))))))))))) rfl rfl hS ?_); clear hS; intro b1 w1 hb2 hS; refine pu (dt p5) ?_
  refine wl (s_lensl Tryd.underlying81 (et d5) (dt p6) ?_)
  refine wl (s_move ec (dt p7) ?_)
  refine wnil ?_
  refine xn ?_
  refine cblock ?_
  obtain ⟨μ1,le4,m3,hS⟩:=Sep.frzBlk (l:=([[61,61],[33,61],[60,61],[62,61],[60],[62],[61],[43],[45],[42],[47],[37],[40],[41],[123],[125],[44],[59]]:List (List UInt8))) hS (Rw.cons (α:=List UInt8) (cs:=[S [61,61]]) rfl (Rw.cons (α:=List UInt8) (cs:=[S [33,61]]) rfl (Rw.cons (α:=List UInt8) (cs:=[S [60,61]]) rfl (Rw.cons (α:=List UInt8) (cs:=[S [62,61]]) rfl (Rw.cons (α:=List UInt8) (cs:=[S [60]]) rfl (Rw.cons (α:=List UInt8) (cs:=[S [62]]) rfl (Rw.cons (α:=List UInt8) (cs:=[S [61]]) rfl (Rw.cons (α:=List UInt8) (cs:=[S [43]]) rfl (Rw.cons (α:=List UInt8) (cs:=[S [45]]) rfl (Rw.cons (α:=List UInt8) (cs:=[S [42]]) rfl (Rw.cons (α:=List UInt8) (cs:=[S [47]]) rfl (Rw.cons (α:=List UInt8) (cs:=[S [37]]) rfl (Rw.cons (α:=List UInt8) (cs:=[S [40]]) rfl (Rw.cons (α:=List UInt8) (cs:=[S [41]]) rfl (Rw.cons (α:=List UInt8) (cs:=[S [123]]) rfl (Rw.cons (α:=List UInt8) (cs:=[S [125]]) rfl (Rw.cons (α:=List UInt8) (cs:=[S [44]]) rfl (Rw.cons (α:=List UInt8) (cs:=[S [59]]) rfl Rw.nil)))))))))))))))))) (Nat.le_of_ble_eq_true rfl)
  refine cloopE ([2]++[4]++rg 8 8) (by decide) (fun n m w=>∃ (μx:M) (i18:Int),m=(yK2 (yO1 2 (yK1 (yO1 4 (yK2 (.i (.int .i64 i18)::(yO8 8 [])))))))∧lx_sign_l1 p_1 n i18=some r∧Le μ1 μx∧Sq μx w0 w (rsF)) (by rintro _ _ _ ⟨_,_,rfl,_⟩; rfl) _ _ (aK2 (aO1 (aK1 (aO1 (aK2 (aI (aO8 aZ))))))) ⟨_,0,rfl,h,Le.r,hS⟩ ?_
  rintro n_1 _ t w2 ⟨μ2,i18,rfl,h,le32,hS⟩
  cases n_1 with
  | zero=>cases h
  | succ n_1 =>
  unfold lx_sign_l1 at h
  refine cnrm (mK2 (mO1 (mK1 (mO1 (mK2 (mi (mO8 mz))))))) ?_
  refine cseq ?_
  refine creg ?_
  refine wl (s_lss (et d7) (et d6) (dt p8) ?_)
  refine wnil ?_
  refine xn ?_
  refine cseq ?_
  refine cifd (et d8) (fun h33=>?_) (fun h33=>?_)
  · replace h:=iT h33 h
    refine cskip ?_
    refine xn ?_
    refine cseq ?_
    refine cblock ?_
    refine cseq ?_
    refine creg ?_
    replace h:=bI h; obtain ⟨x34,g35,h⟩:=h
    obtain ⟨b36,o37,cs38,e39,f40,m41⟩:=SlR.elem (m3.up le32) g35
    obtain rfl:=m41
    refine wl (s_iax Tryd.underlying81 ti9 (et d5) (et d7) e39 (dt p9) ?_)
    refine wl (s_load ti9 (et d9) ((f40 _ hS.a).one d0) (dt (q10 p0)) ?_)
    refine wl (s_assign (et (k10 d0)) (dt p4) ?_)
    refine wnil ?_
    refine xn ?_
    refine cseq ?_
    refine creg ?_
    refine wl (s_move (et d0) (dt (q10 p1)) ?_)
    refine wl (s_move (et d4) (dt (q10 p2)) ?_)
    replace h:=bI h; obtain ⟨r42,g43,h⟩:=h
    refine wl (s_callv isfn33 ef (e1 (et (k10 d1)) (e1 (et (k10 d2)) e0)) (lx_hp_w (hg.t (le4.t le32)) g43 hS) ?_)
    rintro _ w3 ⟨μ3,rfl,le44,hS⟩
    refine pu (dt (q10 p3)) ?_
    refine wnil ?_
    refine xn ?_
    refine cifb (et (k10 d3)) (fun h45=>?_) (fun h45=>?_)
    · replace h:=iT h45 h
      refine cseq ?_
      refine creg ?_
      refine wl (s_move (et d4) (dt (q10 p4)) ?_)
      refine wl (s_assign (et (k10 d4)) (dt p2) ?_)
      refine wnil ?_
      refine xn ?_
      refine cret ?_
      refine (fun h=>br (xr (xr (br (xr h))))) ?_
      obtain rfl:=oI h
      refine ret1 rfl d2 ?_
      exact ⟨_,rfl,(le4.t (le32.t le44)),hS⟩
    · replace h:=iF h45 h
      refine cskip ?_
      refine (fun h=>bn (xn h)) ?_
      refine creg ?_
      replace h:=bI h; obtain ⟨i46,g47,h⟩:=h
      refine wl (s_addc (et d7) ec g47 (dt (q10 p5)) ?_)
      refine wl (s_move (et (k10 d5)) (dt p7) ?_)
      refine wnil ?_
      refine xl ?_
      exact ⟨n_1,_,_,rfl,(aK2 (aO1 (aK1 (aO1 (aK2 (aI (aO8 aZ))))))),⟨_,i46,rfl,h,(le32.t le44),hS⟩,Nat.lt_succ_self _⟩
  · replace h:=iF h33 h
    refine cexit ?_
    refine (fun h=>xe (xe (bh h))) ?_
    refine xn ?_
    refine cseq ?_
    refine creg ?_
    refine wl (s_assign ec (dt p2) ?_)
    refine wnil ?_
    refine xn ?_
    refine cret ?_
    obtain rfl:=oI h
    refine ret1 rfl d2 ?_
    exact ⟨_,rfl,(le4.t le32),hS⟩
theorem lx_space_w {fu:Nat} {μ0:M} {w0 w:World} {rsF:List Res} (hg:Le Gm μ0) {p_1:List UInt8} {r:Int}  (h:lx_space fu p_1=some r) (hS:Sq μ0 w0 w (rsF)):CallsV Tryd.prog 14 [S p_1] w (fun v w'=>∃ (μ':M) ,v=.int .i64 r∧Le μ0 μ'∧Sq μ' w0 w' (rsF)):=by
  unfold lx_space at h
  refine enter Tryd.func14 rfl (frm:=[_,_,_,_,_,_,_,_,_,_,_,_,_,_,_,_,_,_,_,_,_,_,_,_,_,_,_]) rfl ?_
  refine cseq ?_
  refine creg ?_
  refine wl (s_assign ec (dt p2) ?_)
  refine wnil ?_
  refine xn ?_
  refine cseq ?_
  refine creg ?_
  refine wl (s_assign ec (dt p3) ?_)
  refine wnil ?_
  refine xn ?_
  refine cseq ?_
  refine cblock ?_
  refine cloopE ([2]++rg 4 22) (by decide +kernel) (fun n m w=>∃ (μx:M) (i13:Int),m=(yK2 (yO1 2 (.i (.int .i64 i13)::(yO20 4 (yO2 24 [])))))∧lx_space_l1 fu p_1 n i13=some r∧Le μ0 μx∧Sq μx w0 w (rsF)) (by rintro _ _ _ ⟨_,_,rfl,_⟩; rfl) _ _ (aK2 (aO1 (aI (aO20 (aO2 aZ))))) ⟨_,0,rfl,h,Le.r,hS⟩ ?_
  rintro n_1 _ t w1 ⟨μ1,i13,rfl,h,le26,hS⟩
  cases n_1 with
  | zero=>cases h
  | succ n_1 =>
  unfold lx_space_l1 at h
  refine cnrm (mK2 (mO1 (mi (mO20 (mO2 mz))))) ?_
  refine cseq ?_
  refine cseq ?_
  refine creg ?_
  refine wl (s_move (et d3) (dt p4) ?_)
  refine wl (s_move (et d0) (dt p5) ?_)
  refine wl (s_lens Tryd.underlying9 (et d5) (dt p6) ?_)
  refine wl (s_lss (et d4) (et d6) (dt p7) ?_)
  refine wnil ?_
  refine xn ?_
  refine cifd (et d7) (fun h27=>?_) (fun h27=>?_)
  · replace h:=iT h27 h
    refine cskip ?_
    refine xn ?_
    refine cblock ?_
    refine cseq ?_
    refine creg ?_
    refine wl (s_move (et d0) (dt p8) ?_)
    refine wl (s_move (et d3) (dt p9) ?_)
    replace h:=bI h; obtain ⟨u28,g29,h⟩:=h
    refine wl (s_idxc Tryd.underlying9 (et d8) (et d9) g29 (dt (q10 p0)) ?_)
    refine wnil ?_
    refine xn ?_
    refine cblock ?_
    refine cseq ?_
    refine cseq ?_
    refine creg ?_
    refine wl (s_eqi (et (k10 d0)) ec (dt (q10 p3)) ?_)
    refine wl (s_assign (et (k10 d3)) (dt (q10 p2)) ?_)
    refine wnil ?_
    refine xn ?_
    refine ccutE (rg 14 2) (by decide) (fun m w=>∃ (μx:M) (b30:Bool),m=(yK10 (yK2 (.i (.bool b30)::(yK1 (yO2 14 [])))))∧lx_space_j1 fu p_1 i13 u28 (lx_space_l1 fu p_1 n_1) b30=some r∧Le μ1 μx∧Sq μx w0 w (rsF)) (by rintro _ _ ⟨_,_,rfl,_⟩; rfl) ?_ ?_
    · refine cifd (et (k10 d2)) (fun h31=>?_) (fun h31=>?_)
      · replace h:=iT h31 h
        refine cskip ?_
        refine xl ?_
        exact ⟨_,_,rfl,(aK10 (aK2 (aI (aK1 (aO2 aZ))))),_,(decide ((u28.toNat:Int)=32)),rfl,h,Le.r,hS⟩
      · replace h:=iF h31 h
        refine cseq ?_
        refine creg ?_
        refine wl (s_eqi (et (k10 d0)) ec (dt (q10 p4)) ?_)
        refine wl (s_assign (et (k10 d4)) (dt (q10 p2)) ?_)
        refine wnil ?_
        refine xn ?_
        refine cifd (et (k10 d2)) (fun h32=>?_) (fun h32=>?_)
        · replace h:=iT h32 h
          refine cskip ?_
          refine xl ?_
          exact ⟨_,_,rfl,(aK10 (aK2 (aI (aK1 (aO2 aZ))))),_,(decide ((u28.toNat:Int)=9)),rfl,h,Le.r,hS⟩
        · replace h:=iF h32 h
          refine creg ?_
          refine wl (s_eqi (et (k10 d0)) ec (dt (q10 p5)) ?_)
          refine wl (s_assign (et (k10 d5)) (dt (q10 p2)) ?_)
          refine wnil ?_
          refine xl ?_
          exact ⟨_,_,rfl,(aK10 (aK2 (aI (aK1 (aO2 aZ))))),_,(decide ((u28.toNat:Int)=10)),rfl,h,Le.r,hS⟩
    · rintro _ t w2 ⟨μ2,b30,rfl,h,le33,hS⟩
      unfold lx_space_j1 at h
      refine nrm (mK10 (mK2 (mi (mK1 (mO2 mz))))) ?_
      refine xn ?_
      refine cifb (et (k10 d2)) (fun h34=>?_) (fun h34=>?_)
      · replace h:=iT h34 h
        refine creg ?_
        refine wl (s_move (et d3) (dt (q10 p6)) ?_)
        replace h:=bI h; obtain ⟨i35,g36,h⟩:=h
        refine wl (s_addc (et (k10 d6)) ec g36 (dt (q10 p7)) ?_)
        refine wl (s_assign (et (k10 d7)) (dt p3) ?_)
        refine wnil ?_
        refine (fun h=>bn (bn (xl h))) ?_
        exact ⟨n_1,_,_,rfl,(aK2 (aO1 (aI (aO20 (aO2 aZ))))),⟨_,i35,rfl,h,(le26.t le33),hS⟩,Nat.lt_succ_self _⟩
      · replace h:=iF h34 h
        refine cseq ?_
        refine creg ?_
        refine wl (s_eqi (et (k10 d0)) ec (dt (q10 p9)) ?_)
        refine wl (s_assign (et (k10 d9)) (dt (q10 p8)) ?_)
        refine wnil ?_
        refine xn ?_
        refine cifd (et (k10 d8)) (fun h37=>?_) (fun h37=>?_)
        · replace h:=iT h37 h
          refine creg ?_
          refine wl (s_move (et d3) (dt (q20 p0)) ?_)
          refine wl (s_move (et d0) (dt (q20 p1)) ?_)
          refine wl (s_move (et d3) (dt (q20 p2)) ?_)
          replace h:=bI h; obtain ⟨s38,g39,h⟩:=h
          refine wl (s_cutloc Tryd.underlying9 (et (k20 d1)) (et (k20 d2)) g39 (dt (q20 p3)) ?_)
          replace h:=bI h; obtain ⟨r40,g41,h⟩:=h
          refine wl (s_callv isfn16 ef (e1 (et (k20 d3)) (e1 ef e0)) (lx_while_w (hg.t (le26.t le33)) (⟨isfn30,fun hle_ hm_ g_ hS_=>by obtain rfl:=hm_; exact lx_s1_w ((hg.t (le26.t le33)).t hle_)  g_ hS_⟩) g41 hS) ?_)
          rintro _ w3 ⟨μ3,rfl,le42,hS⟩
          refine pu (dt (q20 p4)) ?_
          replace h:=bI h; obtain ⟨i43,g44,h⟩:=h
          refine wl (s_addc (et (k20 d0)) (et (k20 d4)) g44 (dt (q20 p5)) ?_)
          refine wl (s_assign (et (k20 d5)) (dt p3) ?_)
          refine wnil ?_
          refine (fun h=>bn (bn (xl h))) ?_
          exact ⟨n_1,_,_,rfl,(aK2 (aO1 (aI (aO20 (aO2 aZ))))),⟨_,i43,rfl,h,(le26.t (le33.t le42)),hS⟩,Nat.lt_succ_self _⟩
        · replace h:=iF h37 h
          refine cseq ?_
          refine creg ?_
          refine wl (s_move (et d3) (dt (q10 p1)) ?_)
          refine wl (s_assign (et (k10 d1)) (dt p2) ?_)
          refine wnil ?_
          refine xn ?_
          refine cret ?_
          refine (fun h=>br (br (xr (br (xr h))))) ?_
          obtain rfl:=oI h
          refine ret1 rfl d2 ?_
          exact ⟨_,rfl,(le26.t le33),hS⟩
  · replace h:=iF h27 h
    refine cexit ?_
    refine (fun h=>xe (xe (bh h))) ?_
    refine xn ?_
    refine cseq ?_
    refine creg ?_
    refine wl (s_move (et d3) (dt (q20 p6)) ?_)
    refine wl (s_assign (et (k20 d6)) (dt p2) ?_)
    refine wnil ?_
    refine xn ?_
    refine cret ?_
    obtain rfl:=oI h
    refine ret1 rfl d2 ?_
    exact ⟨_,rfl,le26,hS⟩
theorem lex_named_w {fu:Nat} {μ0:M} {w0 w:World} {rsF:List Res} (hg:Le Gm μ0) {p_1:List UInt8} {r:Bool}  (h:lex_named fu p_1=some r) (hS:Sq μ0 w0 w (rsF)):CallsV Tryd.prog 35 [S p_1] w (fun v w'=>∃ (μ':M) ,v=.bool r∧Le μ0 μ'∧Sq μ' w0 w' (rsF)):=by
  unfold lex_named at h
  refine enter Tryd.func35 rfl (frm:=[_,_,_,_,_,_,_,_,_,_,_,_,_,_,_,_,_,_,_,_,_,_,_,_,_,_,_,_]) rfl ?_
  refine cseq ?_
  refine creg ?_
  refine wl (s_assign ec (dt p2) ?_)
  refine wnil ?_
  refine xn ?_
  refine cseq ?_
  refine cseq ?_
  refine ccutE (rg 3 19) (by decide) (fun m w=>∃ (μx:M) (b1:Bool),m=(yK3 (yO10 3 (yO9 13 (.i (.bool b1)::[]))))∧lex_named_j1 fu p_1 b1=some r∧Le μ0 μx∧Sq μx w0 w (rsF)) (by rintro _ _ ⟨_,_,rfl,_⟩; rfl) ?_ ?_
  · refine creg ?_
    refine wl (s_move (et d0) (dt p3) ?_)
    refine wl (s_lens Tryd.underlying9 (et d3) (dt p4) ?_)
    refine wl (s_lss (et d4) ec (dt p5) ?_)
    refine wl (s_move (et d5) (dt p6) ?_)
    refine wspd d6 p6 p6 (fun h2=>?_) (fun h2=>?_)
    · replace h:=iT h2 h
      refine wn rfl d6 rfl (dt p7) ?_
      refine wn rfl d6 rfl (dt p8) ?_
      refine wn rfl d6 rfl (dt p9) ?_
      refine wl (s_pickt (et d6) ec (dt (q10 p0)) ?_)
      refine wl (s_move (et (k10 d0)) (dt (q10 p1)) ?_)
      refine wn rfl (k10 d1) rfl (dt (q10 p2)) ?_
      refine wn rfl (k10 d1) rfl (dt (q10 p3)) ?_
      refine wn rfl (k10 d1) rfl (dt (q10 p4)) ?_
      refine wn rfl (k10 d1) rfl (dt (q10 p5)) ?_
      refine wl (s_pickt (et (k10 d1)) ec (dt (q10 p6)) ?_)
      refine wl (s_move (et (k10 d6)) (dt (q10 p7)) ?_)
      refine wn rfl (k10 d7) rfl (dt (q10 p8)) ?_
      refine wn rfl (k10 d7) rfl (dt (q10 p9)) ?_
      refine wn rfl (k10 d7) rfl (dt (q20 p0)) ?_
      refine wn rfl (k10 d7) rfl (dt (q20 p1)) ?_
      refine wl (s_pickt (et (k10 d7)) ec (dt (q20 p2)) ?_)
      refine wnil ?_
      refine xl ?_
      exact ⟨_,_,rfl,(aK3 (aO10 (aO9 (aI aZ)))),_,true,rfl,h,Le.r,hS⟩
    · replace h:=iF h2 h
      refine wy rfl d6 (s_move (et d0) (dt p7) ?_)
      refine wy rfl d6 (s_lens Tryd.underlying9 (et d7) (dt p8) ?_)
      refine wy rfl d6 (s_gtr (et d8) ec (dt p9) ?_)
      refine wl (s_pickf (et d6) (et d9) (dt (q10 p0)) ?_)
      refine wl (s_move (et (k10 d0)) (dt (q10 p1)) ?_)
      refine wspd (k10 d1) (q10 p1) (q10 p1) (fun h3=>?_) (fun h3=>?_)
      · replace h:=iT h3 h
        refine wn rfl (k10 d1) rfl (dt (q10 p2)) ?_
        refine wn rfl (k10 d1) rfl (dt (q10 p3)) ?_
        refine wn rfl (k10 d1) rfl (dt (q10 p4)) ?_
        refine wn rfl (k10 d1) rfl (dt (q10 p5)) ?_
        refine wl (s_pickt (et (k10 d1)) ec (dt (q10 p6)) ?_)
        refine wl (s_move (et (k10 d6)) (dt (q10 p7)) ?_)
        refine wn rfl (k10 d7) rfl (dt (q10 p8)) ?_
        refine wn rfl (k10 d7) rfl (dt (q10 p9)) ?_
        refine wn rfl (k10 d7) rfl (dt (q20 p0)) ?_
        refine wn rfl (k10 d7) rfl (dt (q20 p1)) ?_
        refine wl (s_pickt (et (k10 d7)) ec (dt (q20 p2)) ?_)
        refine wnil ?_
        refine xl ?_
        exact ⟨_,_,rfl,(aK3 (aO10 (aO9 (aI aZ)))),_,true,rfl,h,Le.r,hS⟩
      · replace h:=iF h3 h
        refine wy rfl (k10 d1) (s_move (et d0) (dt (q10 p2)) ?_)
        replace h:=bI h; obtain ⟨u4,g5,h⟩:=h
        refine wy rfl (k10 d1) (s_idxc Tryd.underlying9 (et (k10 d2)) ec g5 (dt (q10 p3)) ?_)
        replace h:=bI h; obtain ⟨r6,g7,h⟩:=h
        refine wy rfl (k10 d1) (s_callv isfn15 ef (e1 (et (k10 d3)) e0) (lx_letter_w hg g7 hS) ?_)
        rintro _ w1 ⟨μ1,rfl,le8,hS⟩
        refine pu (dt (q10 p4)) ?_
        refine wy rfl (k10 d1) (s_not (et (k10 d4)) (dt (q10 p5)) ?_)
        refine wl (s_pickf (et (k10 d1)) (et (k10 d5)) (dt (q10 p6)) ?_)
        refine wl (s_move (et (k10 d6)) (dt (q10 p7)) ?_)
        refine wspnb (k10 d7) (q10 p7) (q10 p7) (fun h9=>?_) (fun h9=>?_)
        · replace h:=iF h9 h
          refine wn rfl (k10 d7) rfl (dt (q10 p8)) ?_
          refine wn rfl (k10 d7) rfl (dt (q10 p9)) ?_
          refine wn rfl (k10 d7) rfl (dt (q20 p0)) ?_
          refine wn rfl (k10 d7) rfl (dt (q20 p1)) ?_
          refine wl (s_pickt (et (k10 d7)) ec (dt (q20 p2)) ?_)
          refine wnil ?_
          refine xl ?_
          exact ⟨_,_,rfl,(aK3 (aO10 (aO9 (aI aZ)))),_,true,rfl,h,le8,hS⟩
        · replace h:=iT h9 h
          refine wy rfl (k10 d7) (s_move (et d0) (dt (q10 p8)) ?_)
          replace h:=bI h; obtain ⟨s10,g11,h⟩:=h
          refine wy rfl (k10 d7) (s_catc ec (et (k10 d8)) g11 (dt (q10 p9)) ?_)
          replace h:=bI h; obtain ⟨s12,g13,h⟩:=h
          refine wy rfl (k10 d7) (s_catc (et (k10 d9)) ec g13 (dt (q20 p0)) ?_)
          replace h:=bI h; obtain ⟨b14,g15,h⟩:=h
          refine wy rfl (k10 d7) (s_callv isfn47 ef (e1 ec (e1 (et (k20 d0)) e0)) (scont_w (hg.t le8) g15 hS) ?_); clear hS; rintro _ w2 ⟨rfl,hS⟩; refine pu (dt (q20 p1)) ?_
          refine wl (s_pickf (et (k10 d7)) (et (k20 d1)) (dt (q20 p2)) ?_)
          refine wnil ?_
          refine xl ?_
          exact ⟨_,_,rfl,(aK3 (aO10 (aO9 (aI aZ)))),_,b14,rfl,h,le8,hS⟩
  · rintro _ t w3 ⟨μ2,b1,rfl,h,le16,hS⟩
    unfold lex_named_j1 at h
    refine nrm (mK3 (mO10 (mO9 (mi mz)))) ?_
    refine xn ?_
    refine cifb (et (k20 d2)) (fun h17=>?_) (fun h17=>?_)
    · replace h:=iT h17 h
      refine cseq ?_
      refine creg ?_
      refine wl (s_assign ec (dt p2) ?_)
      refine wnil ?_
      refine xn ?_
      refine cret ?_
      refine xr ?_
      obtain rfl:=oI h
      refine ret1 rfl d2 ?_
      exact ⟨_,rfl,le16,hS⟩
    · replace h:=iF h17 h
      refine cskip ?_
      refine xn ?_
      refine cseq ?_
      refine creg ?_
      refine wl (s_move (et d0) (dt (q20 p3)) ?_)
      replace h:=bI h; obtain ⟨r18,g19,h⟩:=h
      refine wl (s_callv isfn16 ef (e1 (et (k20 d3)) (e1 ef e0)) (lx_while_w (hg.t le16) (⟨isfn48,fun hle_ hm_ g_ hS_=>by obtain rfl:=hm_; exact lx_n1_w ((hg.t le16).t hle_)  g_ hS_⟩) g19 hS) ?_)
      rintro _ w4 ⟨μ3,rfl,le20,hS⟩
      refine pu (dt (q20 p4)) ?_
      refine wl (s_move (et d0) (dt (q20 p5)) ?_)
      refine wl (s_lens Tryd.underlying9 (et (k20 d5)) (dt (q20 p6)) ?_)
      refine wl (s_eqi (et (k20 d4)) (et (k20 d6)) (dt (q20 p7)) ?_)
      refine wl (s_assign (et (k20 d7)) (dt p2) ?_)
      refine wnil ?_
      refine xn ?_
      refine cret ?_
      obtain rfl:=oI h
      refine ret1 rfl d2 ?_
      exact ⟨_,rfl,(le16.t le20),hS⟩
theorem lex_tokens_w {fu:Nat} {μ0:M} {w0 w:World} {rsF:List Res} (hg:Le Gm μ0) {p_1:List UInt8} {r:List TToken×TFault}  (h:lex_tokens fu p_1=some r) (hS:Sq μ0 w0 w (rsF)):CallsV Tryd.prog 7 [S p_1] w (fun v w'=>∃ (μ':M) (a1:Option Addr) (c2:Nat),v=.tuple ⟨[.slice a1 r.1.length c2,.agg ⟨[.int .i64 r.2.Err,.int .i64 r.2.At]⟩]⟩∧Le μ0 μ'∧Sq μ' w0 w' (rsF)∧Sl μ' a1 c2 r.1):=by
  unfold lex_tokens at h
  refine enter Tryd.func7 rfl (frm:=[_,_,_,_,_,_,_,_,_,_,_,_,_,_,_,_,_,_,_,_,_,_,_,_,_,_,_,_,_,_,_,_,_,_,_,_,_,_,_,_,_,_,_,_,_,_,_,_,_,_,_,_,_,_,_,_,_,_,_,_,_,_,_,_,_,_,_,_,_,_,_,_,_,_,_,_,_,_,_,_,_,_,_]) rfl ?_
  refine cseq ?_
  refine creg ?_
  refine wl (s_assign ec (dt p2) ?_)
  refine wl (s_alloc ti26 hS ?_); clear hS; intro b4 w1 hb5 hS; refine pu (dt p3) ?_
  refine wnil ?_
  refine xn ?_
  refine cseq ?_
  refine cseq ?_
  refine creg ?_
  refine wl (s_move (et d0) (dt p9) ?_)
  refine wl (s_lens Tryd.underlying9 (et d9) (dt (q10 p0)) ?_)
  refine wl (s_gtr (et (k10 d0)) ec (dt (q10 p1)) ?_)
  refine wnil ?_
  refine xn ?_
  refine cifd (et (k10 d1)) (fun h6=>?_) (fun h6=>?_)
  · replace h:=iT h6 h
    refine cseq ?_
    refine creg ?_
    refine wl (s_build ti26 pl26 (Fl.o rfl ec rfl rfl p0 Fl.z) (dt (q10 p2)) ?_)
    refine wl (s_assign ec (dt p2) ?_)
    refine wl (s_storeA ti26 (et d3) (et (k10 d2)) rfl rfl hS d0 rfl p0 dn ?_)
    clear hS; intro w2 hS
    refine wnil ?_
    refine xn ?_
    refine cret ?_
    refine xr ?_
    obtain rfl:=oI h
    refine retN rfl (RVs.s (.t d2) (RVs.s (.a d3 ti26 (hS.blk d0).cells rfl) RVs.z)) ?_
    replace hS:=hS.drop Rm.z
    exact ⟨_,none,0,rfl,Le.r,hS,Sl.nil⟩
  · replace h:=iF h6 h
    refine cskip ?_
    refine xn ?_
    refine cseq ?_
    refine creg ?_
    refine wl (s_assign ec (dt p4) ?_)
    refine wnil ?_
    refine xn ?_
    refine cseq ?_
    refine cseq ?_
    refine creg ?_
    refine wl (s_move (et d0) (dt (q10 p3)) ?_)
    replace h:=bI h; obtain ⟨r7,g8,h⟩:=h
    refine wl (s_callv isfn14 ef (e1 (et (k10 d3)) e0) (lx_space_w hg g8 hS) ?_)
    rintro _ w3 ⟨μ1,rfl,le9,hS⟩
    refine pu (dt (q10 p4)) ?_
    refine wl (s_assign (et (k10 d4)) (dt p5) ?_)
    refine wnil ?_
    refine xn ?_
    refine cblock ?_
    replace hS:=hS.nilRow 59 (Mo.sz TToken)
    replace hS:=hS.bg (Bg.s Bg.z)
    refine cloopE ([2]++rg 6 3++rg 15 66) (by decide +kernel) (fun n m w=>∃ (μx:M) (i58:Int) (l61:List TToken) (v59:Value) (cs60:List Value),m=(yK2 (yO1 2 (yK1 (.i (v59)::(.i (.int .i64 i58)::(yO3 6 (yK6 (yO50 15 (yO10 65 (yO6 75 []))))))))))∧lex_tokens_l1 fu p_1 n i58 l61=some r∧Le μ1 μx∧Sq μx w0 w (.blk b4 26 [.int .i64 0,.int .i64 0]::.row v59 59 4 l61.length cs60::rsF)∧Rw μx cs60 l61) (by rintro _ _ _ ⟨_,_,_,_,_,rfl,_⟩; rfl) _ _ (aK2 (aO1 (aK1 (aI (aI (aO3 (aK6 (aO50 (aO10 (aO6 aZ)))))))))) ⟨_,r7,[],(.slice none 0 0),[],rfl,h,Le.r,hS,Rw.nil⟩ ?_
    rintro n_1 _ t w4 ⟨μ2,i58,l61,v59,cs60,rfl,h,le109,hS,m110⟩
    cases n_1 with
    | zero=>cases h
    | succ n_1 =>
    unfold lex_tokens_l1 at h
    refine cnrm (mK2 (mO1 (mK1 (mi (mi (mO3 (mK6 (mO50 (mO10 (mO6 mz)))))))))) ?_
    refine cseq ?_
    refine cseq ?_
    refine creg ?_
    refine wl (s_move (et d5) (dt (q10 p5)) ?_)
    refine wl (s_move (et d0) (dt (q10 p6)) ?_)
    refine wl (s_lens Tryd.underlying9 (et (k10 d6)) (dt (q10 p7)) ?_)
    refine wl (s_lss (et (k10 d5)) (et (k10 d7)) (dt (q10 p8)) ?_)
    refine wnil ?_
    refine xn ?_
    refine cifd (et (k10 d8)) (fun h111=>?_) (fun h111=>?_)
    · replace h:=iT h111 h
      refine cskip ?_
      refine xn ?_
      refine cseq ?_
      refine cblock ?_
      refine cseq ?_
      refine creg ?_
      refine wl (s_move (et d0) (dt (q20 p5)) ?_)
      refine wl (s_move (et d5) (dt (q20 p6)) ?_)
      replace h:=bI h; obtain ⟨s112,g113,h⟩:=h
      refine wl (s_cutloc Tryd.underlying9 (et (k20 d5)) (et (k20 d6)) g113 (dt (q20 p7)) ?_)
      refine wl (s_assign (et (k20 d7)) (dt p6) ?_)
      refine wnil ?_
      refine xn ?_
      refine cseq ?_
      refine creg ?_
      refine wl (s_move (et d5) (dt (q20 p8)) ?_)
      refine wl (s_build ti59 pl59 (Fl.o rfl (et (k20 d8)) rfl rfl p3 Fl.z) (dt (q20 p9)) ?_)
      refine wl (s_alloc ti59 hS ?_); clear hS; intro b114 w5 hb115 hS; refine pu (dt p7) ?_
      refine wl (s_storeA ti59 (et d7) (et (k20 d9)) rfl rfl hS d0 rfl p0 dn ?_)
      clear hS; intro w6 hS
      refine wnil ?_
      refine xn ?_
      refine cseq ?_
      refine cseq ?_
      refine creg ?_
      refine wl (s_move (et d6) (dt (q30 p0)) ?_)
      replace h:=bI h; obtain ⟨u116,g117,h⟩:=h
      refine wl (s_idxc Tryd.underlying9 (et (k30 d0)) ec g117 (dt (q30 p1)) ?_)
      refine wl (s_assign (et (k30 d1)) (dt p8) ?_)
      refine wnil ?_
      refine xn ?_
      refine ccutE ([2]++rg 32 40) (by decide +kernel) (fun m w=>∃ (μx:M) (i118:Int) (s119:List UInt8) (i120:Int),m=(yK2 (yO1 2 (yK20 (yK9 (yO20 32 (yO20 52 []))))))∧lex_tokens_j1 fu p_1 i58 l61 (lex_tokens_l1 fu p_1 n_1) i118 s119 i120=some r∧Le μ2 μx∧Sq μx w0 w (.blk b4 26 [.int .i64 0,.int .i64 0]::.row v59 59 4 l61.length cs60::.blk b114 59 [.int .i64 i118,S s119,.int .i64 i120,.int .i64 i58]::rsF)) (by rintro _ _ ⟨_,_,_,_,rfl,_⟩; rfl) ?_ ?_
      · refine cblock ?_
        refine cseq ?_
        refine creg ?_
        refine wl (s_move (et d8) (dt (q40 p2)) ?_)
        replace h:=bI h; obtain ⟨r121,g122,h⟩:=h
        refine wl (s_callv isfn15 ef (e1 (et (k40 d2)) e0) (lx_letter_w (hg.t (le9.t le109)) g122 hS) ?_)
        rintro _ w7 ⟨μ3,rfl,le123,hS⟩
        refine pu (dt (q40 p3)) ?_
        refine wl (s_assign (et (k40 d3)) (dt (q40 p1)) ?_)
        refine wnil ?_
        refine xn ?_
        refine cifb (et (k40 d1)) (fun h124=>?_) (fun h124=>?_)
        · replace h:=iT h124 h
          refine cdraw (by kernel_rfl) rfl fun w8 hh_ ho_ ht_ hu_=>?_
          replace hS:=hS.drew hh_ ho_ ht_ hu_
          refine sf_start ?_
          refine sf_pu (i:=0) [0,3,6,7] (blind_of fun _ _ _ h=>h.2) rfl rfl rfl (u_move (et d6)) (q40 p4) ?_
          refine sf_pu (i:=1) [1,2,3,5,6,7] (blind_of fun _ _ _ h=>h.2) rfl rfl rfl (u_move (et d6)) (q40 p5) ?_
          refine sf_pu (i:=4) [4,5,6,7] (blind_of fun _ _ _ h=>h.2) rfl rfl rfl (u_fa fa59_0 (et d7) rfl) (q40 p8) ?_
          replace h:=bI h; obtain ⟨r125,g126,h⟩:=h
          refine sf1 rfl rfl rfl rfl (wn0 rfl) (s_callv isfn16 ef (e1 (et (k40 d5)) (e1 ef e0)) (lx_while_w (hg.t (le9.t (le109.t le123))) (⟨isfn17,fun hle_ hm_ g_ hS_=>by obtain rfl:=hm_; exact lx_t1_w ((hg.t (le9.t (le109.t le123))).t hle_)  g_ hS_⟩) g126 hS) ?_)
          rintro _ w9 ⟨μ4,rfl,le127,hS⟩
          refine pu (dt (q40 p6)) ?_
          refine ⟨Mons.z,?_⟩
          replace h:=bI h; obtain ⟨s128,g129,h⟩:=h
          refine sf_pu (i:=3) [3,6,7] (blind_of fun _ _ _ h=>h.2) rfl rfl rfl (u_cuthic Tryd.underlying9 (et (k40 d4)) (et (k40 d6)) g129) (q40 p7) ?_
          refine sf1 rfl rfl rfl rfl (wn0 rfl) (s_store1 ti3 (et (k40 d8)) ec rfl hS d0 p0 rfl p0 dn ?_)
          clear hS; intro w10 hS
          refine ⟨Mons.z,?_⟩
          refine sf_pu (i:=6) [6,7] (blind_of fun _ _ _ h=>h.2) rfl rfl rfl (u_fa fa59_1 (et d7) rfl) (q40 p9) ?_
          refine sf1 rfl rfl rfl rfl (wn0 rfl) (s_store1 ti9 (et (k40 d9)) (et (k40 d7)) rfl hS d0 p1 rfl p0 dn ?_)
          clear hS; intro w11 hS
          refine ⟨Mons.z,?_⟩
          refine sf_nil ?_
          refine (fun h=>bn (xl h)) ?_
          replace hS:=hS.bg (Bg.s (Bg.s Bg.z))
          replace hS:=hS.bg (Bg.s (Bg.s Bg.z))
          exact ⟨_,_,rfl,(aK2 (aO1 (aK20 (aK9 (aO20 (aO20 aZ)))))),_,1,s128,0,rfl,h,(le123.t le127),hS⟩
        · replace h:=iF h124 h
          refine cseq ?_
          refine creg ?_
          refine wl (s_move (et d8) (dt (q50 p1)) ?_)
          replace h:=bI h; obtain ⟨r130,g131,h⟩:=h
          refine wl (s_callv isfn18 ef (e1 (et (k50 d1)) e0) (lx_digit_w (hg.t (le9.t (le109.t le123))) g131 hS) ?_)
          rintro _ w12 ⟨μ5,rfl,le132,hS⟩
          refine pu (dt (q50 p2)) ?_
          refine wl (s_assign (et (k50 d2)) (dt (q50 p0)) ?_)
          refine wnil ?_
          refine xn ?_
          refine cifb (et (k50 d0)) (fun h133=>?_) (fun h133=>?_)
          · replace h:=iT h133 h
            refine cseq ?_
            refine cdraw (by kernel_rfl) rfl fun w13 hh_ ho_ ht_ hu_=>?_
            replace hS:=hS.drew hh_ ho_ ht_ hu_
            refine sf_start ?_
            refine sf_pu (i:=0) [0,3,6,7] (blind_of fun _ _ _ h=>h.2) rfl rfl rfl (u_move (et d6)) (q50 p3) ?_
            refine sf_pu (i:=1) [1,2,3,5,6,7] (blind_of fun _ _ _ h=>h.2) rfl rfl rfl (u_move (et d6)) (q50 p4) ?_
            refine sf_pu (i:=4) [4,5,6,7] (blind_of fun _ _ _ h=>h.2) rfl rfl rfl (u_fa fa59_0 (et d7) rfl) (q50 p7) ?_
            replace h:=bI h; obtain ⟨r134,g135,h⟩:=h
            refine sf1 rfl rfl rfl rfl (wn0 rfl) (s_callv isfn16 ef (e1 (et (k50 d4)) (e1 ef e0)) (lx_while_w (hg.t (le9.t (le109.t (le123.t le132)))) (⟨isfn18,fun hle_ hm_ g_ hS_=>by obtain rfl:=hm_; exact lx_digit_w ((hg.t (le9.t (le109.t (le123.t le132)))).t hle_)  g_ hS_⟩) g135 hS) ?_)
            rintro _ w14 ⟨μ6,rfl,le136,hS⟩
            refine pu (dt (q50 p5)) ?_
            refine ⟨Mons.z,?_⟩
            replace h:=bI h; obtain ⟨s137,g138,h⟩:=h
            refine sf_pu (i:=3) [3,6,7] (blind_of fun _ _ _ h=>h.2) rfl rfl rfl (u_cuthic Tryd.underlying9 (et (k50 d3)) (et (k50 d5)) g138) (q50 p6) ?_
            refine sf1 rfl rfl rfl rfl (wn0 rfl) (s_store1 ti3 (et (k50 d7)) ec rfl hS d0 p0 rfl p0 dn ?_)
            clear hS; intro w15 hS
            refine ⟨Mons.z,?_⟩
            refine sf_pu (i:=6) [6,7] (blind_of fun _ _ _ h=>h.2) rfl rfl rfl (u_fa fa59_1 (et d7) rfl) (q50 p8) ?_
            refine sf1 rfl rfl rfl rfl (wn0 rfl) (s_store1 ti9 (et (k50 d8)) (et (k50 d6)) rfl hS d0 p1 rfl p0 dn ?_)
            clear hS; intro w16 hS
            refine ⟨Mons.z,?_⟩
            refine sf_nil ?_
            refine xn ?_
            refine cseq ?_
            refine cseq ?_
            refine creg ?_
            refine wl (s_fa fa59_1 (et d7) rfl (dt (q50 p9)) ?_)
            refine wl (s_load ti9 (et (k50 d9)) ((hS.blk d0).cell d1) (dt (q60 p0)) ?_)
            refine wl (s_lens Tryd.underlying9 (et (k60 d0)) (dt (q60 p1)) ?_)
            refine wl (s_gtr (et (k60 d1)) ec (dt (q60 p2)) ?_)
            refine wnil ?_
            refine xn ?_
            refine cifd (et (k60 d2)) (fun h139=>?_) (fun h139=>?_)
            · replace h:=iT h139 h
              refine cseq ?_
              refine creg ?_
              refine wl (s_move (et d5) (dt (q60 p3)) ?_)
              refine wl (s_build ti26 pl26 (Fl.o rfl ec rfl rfl p0 (Fl.o rfl (et (k60 d3)) rfl rfl p1 Fl.z)) (dt (q60 p4)) ?_)
              refine wl (s_assign ec (dt p2) ?_)
              refine wl (s_storeA ti26 (et d3) (et (k60 d4)) rfl rfl hS d1 rfl p1 dn ?_)
              clear hS; intro w17 hS
              refine wnil ?_
              refine xn ?_
              refine cret ?_
              refine (fun h=>xr (br (xr (xr (br (xr (xr (br (xr h))))))))) ?_
              obtain rfl:=oI h
              refine retN rfl (RVs.s (.t d2) (RVs.s (.a d3 ti26 (hS.blk d1).cells rfl) RVs.z)) ?_
              replace hS:=hS.drop Rm.z
              replace hS:=hS.drop Rm.z
              replace hS:=hS.drop Rm.z
              exact ⟨_,none,0,rfl,(le9.t (le109.t (le123.t (le132.t le136)))),hS,Sl.nil⟩
            · replace h:=iF h139 h
              refine cskip ?_
              refine xn ?_
              refine creg ?_
              refine wl (s_fa fa59_1 (et d7) rfl (dt (q60 p6)) ?_)
              refine wl (s_load ti9 (et (k60 d6)) ((hS.blk d0).cell d1) (dt (q60 p7)) ?_)
              replace h:=bI h; obtain ⟨i140,g141,h⟩:=h
              refine wl (s_callv isfn19 ef (e1 (et (k60 d7)) (e1 ec (e1 ec e0))) (pint_w g141 hS) ?_); clear hS; rintro _ w18 ⟨rfl,hS⟩; refine pu (dt (q60 p8)) ?_
              refine wl (s_move (et (k60 d8)) (dt (q60 p5)) ?_)
              refine wl (s_extr (et (k60 d5)) d0 (dt (q60 p9)) ?_)
              refine wl (s_extr (et (k60 d5)) d1 (dt (q70 p0)) ?_)
              refine wl (s_fa fa59_2 (et d7) rfl (dt (q70 p1)) ?_)
              refine wl (s_store1 ti2 (et (k70 d1)) (et (k60 d9)) rfl hS d0 p2 rfl p0 dn ?_)
              clear hS; intro w19 hS
              refine wnil ?_
              refine (fun h=>bn (xl h)) ?_
              replace hS:=hS.bg (Bg.s (Bg.s Bg.z))
              replace hS:=hS.bg (Bg.s (Bg.s Bg.z))
              exact ⟨_,_,rfl,(aK2 (aO1 (aK20 (aK9 (aO20 (aO20 aZ)))))),_,2,s137,i140,rfl,h,(le123.t (le132.t le136)),hS⟩
          · replace h:=iF h133 h
            refine cseq ?_
            refine creg ?_
            refine wl (s_move (et d6) (dt (q30 p2)) ?_)
            replace h:=bI h; obtain ⟨r142,g143,h⟩:=h
            refine wl (s_callv isfn20 ef (e1 (et (k30 d2)) e0) (lx_sign_w (hg.t (le9.t (le109.t (le123.t le132)))) g143 hS) ?_)
            rintro _ w20 ⟨μ7,rfl,le144,hS⟩
            refine pu (dt (q30 p3)) ?_
            refine wl (s_fa fa59_0 (et d7) rfl (dt (q30 p4)) ?_)
            refine wl (s_store1 ti3 (et (k30 d4)) ec rfl hS d0 p0 rfl p0 dn ?_)
            clear hS; intro w21 hS
            refine wl (s_fa fa59_1 (et d7) rfl (dt (q30 p5)) ?_)
            refine wl (s_store1 ti9 (et (k30 d5)) (et (k30 d3)) rfl hS d0 p1 rfl p0 dn ?_)
            clear hS; intro w22 hS
            refine wnil ?_
            refine xn ?_
            refine cseq ?_
            refine creg ?_
            refine wl (s_fa fa59_1 (et d7) rfl (dt (q30 p6)) ?_)
            refine wl (s_load ti9 (et (k30 d6)) ((hS.blk d0).cell d1) (dt (q30 p7)) ?_)
            refine wl (s_eqs (et (k30 d7)) ec (dt (q30 p8)) ?_)
            refine wnil ?_
            refine xn ?_
            refine cifd (et (k30 d8)) (fun h145=>?_) (fun h145=>?_)
            · replace h:=iT h145 h
              refine cseq ?_
              refine creg ?_
              refine wl (s_move (et d5) (dt (q30 p9)) ?_)
              refine wl (s_build ti26 pl26 (Fl.o rfl ec rfl rfl p0 (Fl.o rfl (et (k30 d9)) rfl rfl p1 Fl.z)) (dt (q40 p0)) ?_)
              refine wl (s_assign ec (dt p2) ?_)
              refine wl (s_storeA ti26 (et d3) (et (k40 d0)) rfl rfl hS d1 rfl p1 dn ?_)
              clear hS; intro w23 hS
              refine wnil ?_
              refine xn ?_
              refine cret ?_
              refine (fun h=>br (xr (xr (br (xr (xr (br (xr h)))))))) ?_
              obtain rfl:=oI h
              refine retN rfl (RVs.s (.t d2) (RVs.s (.a d3 ti26 (hS.blk d1).cells rfl) RVs.z)) ?_
              replace hS:=hS.drop Rm.z
              replace hS:=hS.drop Rm.z
              replace hS:=hS.drop Rm.z
              exact ⟨_,none,0,rfl,(le9.t (le109.t (le123.t (le132.t le144)))),hS,Sl.nil⟩
            · replace h:=iF h145 h
              refine cskip ?_
              refine (fun h=>bn (xl h)) ?_
              replace hS:=hS.bg (Bg.s (Bg.s Bg.z))
              replace hS:=hS.bg (Bg.s (Bg.s Bg.z))
              exact ⟨_,_,rfl,(aK2 (aO1 (aK20 (aK9 (aO20 (aO20 aZ)))))),_,3,r142,0,rfl,h,(le123.t (le132.t le144)),hS⟩
      · rintro _ t w24 ⟨μ8,i118,s119,i120,rfl,h,le146,hS⟩
        unfold lex_tokens_j1 at h
        refine nrm (mK2 (mO1 (mK20 (mK9 (mO20 (mO20 mz)))))) ?_
        refine xn ?_
        refine cseq ?_
        refine creg ?_
        refine wl (s_move (et d4) (dt (q70 p2)) ?_)
        refine wl (s_loads ti59 (et d7) (hS.blk d2).cells rfl (dt (q70 p3)) ?_)
        refine wl (s_bsl1 Tryd.underlying42 ti59 rfl (et (k70 d3)) rfl hS ?_); clear hS; intro b147 w25 hb148 hS; refine pu (dt (q70 p4)) ?_
        replace h:=bI h; obtain ⟨l151,g152,h⟩:=h
        have m153:Rw μ8 [.int .i64 i118,S s119,.int .i64 i120,.int .i64 i58] [(TToken.mk i118 s119 i120 i58)]:=(Rw.one (α:=TToken) rfl)
        have m150:=Rw.app (m110.up le146) m153 g152
        refine wl (s_app1 Tryd.underlying42 ti59 rfl (et (k70 d2)) (et (k70 d4)) hS d2 (hS.blk d0).cells m153 rfl g152 (by decide) ?_); clear hS; intro v149 w26 rs_ hp_ hS; cases (show _=rs_ from hp_)
        replace hS:=Sep.reput hS p2; refine pu (dt (q70 p5)) ?_
        replace hS:=hS.drop Rm.z
        refine wl (s_assign (et (k70 d5)) (dt p4) ?_)
        refine wnil ?_
        refine xn ?_
        refine creg ?_
        refine wl (s_move (et d5) (dt (q70 p6)) ?_)
        refine wl (s_fa fa59_1 (et d7) rfl (dt (q70 p7)) ?_)
        refine wl (s_load ti9 (et (k70 d7)) ((hS.blk d2).cell d1) (dt (q70 p8)) ?_)
        refine wl (s_lens Tryd.underlying9 (et (k70 d8)) (dt (q70 p9)) ?_)
        replace h:=bI h; obtain ⟨i154,g155,h⟩:=h
        refine wl (s_addc (et (k70 d6)) (et (k70 d9)) g155 (dt (q80 p0)) ?_)
        refine wl (s_assign (et (k80 d0)) (dt p5) ?_)
        refine wnil ?_
        refine (fun h=>bn (xn h)) ?_
        refine creg ?_
        refine wl (s_move (et d5) (dt (q10 p9)) ?_)
        refine wl (s_move (et d0) (dt (q20 p0)) ?_)
        refine wl (s_move (et d5) (dt (q20 p1)) ?_)
        replace h:=bI h; obtain ⟨s156,g157,h⟩:=h
        refine wl (s_cutloc Tryd.underlying9 (et (k20 d0)) (et (k20 d1)) g157 (dt (q20 p2)) ?_)
        replace h:=bI h; obtain ⟨r158,g159,h⟩:=h
        refine wl (s_callv isfn14 ef (e1 (et (k20 d2)) e0) (lx_space_w (hg.t (le9.t (le109.t le146))) g159 hS) ?_)
        rintro _ w27 ⟨μ9,rfl,le160,hS⟩
        refine pu (dt (q20 p3)) ?_
        replace h:=bI h; obtain ⟨i161,g162,h⟩:=h
        refine wl (s_addc (et (k10 d9)) (et (k20 d3)) g162 (dt (q20 p4)) ?_)
        refine wl (s_assign (et (k20 d4)) (dt p5) ?_)
        refine wnil ?_
        refine xl ?_
        replace hS:=hS.drop (Rm.s (Rm.s Rm.z))
        exact ⟨n_1,_,_,rfl,(aK2 (aO1 (aK1 (aI (aI (aO3 (aK6 (aO50 (aO10 (aO6 aZ)))))))))),⟨_,i161,l151,v149,(cs60++[.int .i64 i118,S s119,.int .i64 i120,.int .i64 i58]),rfl,h,(le109.t (le146.t le160)),hS,(m150.up le160)⟩,Nat.lt_succ_self _⟩
    · replace h:=iF h111 h
      refine cexit ?_
      refine (fun h=>xe (xe (bh h))) ?_
      refine xn ?_
      refine cseq ?_
      refine creg ?_
      refine wl (s_move (et d4) (dt (q80 p1)) ?_)
      refine wl (s_build ti26 pl26 Fl.z (dt (q80 p2)) ?_)
      refine wl (s_assign (et (k80 d1)) (dt p2) ?_)
      refine wl (s_storeA ti26 (et d3) (et (k80 d2)) rfl rfl hS d0 rfl p0 dn ?_)
      clear hS; intro w28 hS
      refine wnil ?_
      refine xn ?_
      refine cret ?_
      replace hS:=hS.bg (Bg.s Bg.z)
      obtain ⟨μ10,a163,c164,e167,le166,m165,hq_⟩:=Sep.frzRow hS m110 rfl; clear hS
      subst e167; have hS:=hq_; clear hq_
      obtain rfl:=oI h
      refine retN rfl (RVs.s (.t d2) (RVs.s (.a d3 ti26 (hS.blk d0).cells rfl) RVs.z)) ?_
      replace hS:=hS.drop Rm.z
      exact ⟨_,a163,c164,rfl,(le9.t (le109.t le166)),hS,m165⟩
end Go.Proofs.YtbdiobhgejmgoaaDoor
set_option maxRecDepth 100000
set_option maxHeartbeats 20000000
namespace Go.Proofs.YtbdiobhgejmgoaaDoor
open Go.Wk Go.Xt Go.Y
theorem syn_kids_w {μ0:M} {w0 w:World} {rsF:List Res} (hg:Le Gm μ0) {p_1:Int} {r:Int}  (h:syn_kids p_1=some r) (hS:Sq μ0 w0 w (rsF)):CallsV Tryd.prog 64 [.int .i64 p_1] w (fun v w'=>∃ (μ':M) ,v=.int .i64 r∧Le μ0 μ'∧Sq μ' w0 w' (rsF)):=by
  unfold syn_kids at h
  refine enter Tryd.func64 rfl (frm:=[_,_,_,_,_,_,_,_,_,_,_,_,_,_,_,_,_,_,_,_,_,_,_,_,_,_,_,_]) rfl ?_
  refine cseq ?_
  refine creg ?_
  refine wl (s_assign ec (dt p2) ?_)
  refine wnil ?_
  refine xn ?_
  refine cseq ?_
  refine cblock ?_
  refine cseq ?_
  refine ccutE (rg 4 6) (by decide) (fun m w=>∃ (μx:M) (b1:Bool),m=(yK3 (.i (.bool b1)::(yO6 4 [])))∧syn_kids_j1 p_1 b1=some r∧Le μ0 μx∧Sq μx w0 w (rsF)) (by rintro _ _ ⟨_,_,rfl,_⟩; rfl) ?_ ?_
  · refine creg ?_
    refine wl (s_move (et d0) (dt p4) ?_)
    refine wl (s_leq (et d4) ec (dt p5) ?_)
    refine wl (s_move (et d5) (dt p6) ?_)
    refine wspd d6 p6 p6 (fun h2=>?_) (fun h2=>?_)
    · replace h:=iT h2 h
      refine wn rfl d6 rfl (dt p7) ?_
      refine wn rfl d6 rfl (dt p8) ?_
      refine wl (s_pickt (et d6) ec (dt p9) ?_)
      refine wl (s_assign (et d9) (dt p3) ?_)
      refine wnil ?_
      refine xl ?_
      exact ⟨_,_,rfl,(aK3 (aI (aO6 aZ))),_,true,rfl,h,Le.r,hS⟩
    · replace h:=iF h2 h
      refine wy rfl d6 (s_move (et d0) (dt p7) ?_)
      refine wy rfl d6 (s_eqi (et d7) ec (dt p8) ?_)
      refine wl (s_pickf (et d6) (et d8) (dt p9) ?_)
      refine wl (s_assign (et d9) (dt p3) ?_)
      refine wnil ?_
      refine xl ?_
      exact ⟨_,_,rfl,(aK3 (aI (aO6 aZ))),_,(decide (p_1=20)),rfl,h,Le.r,hS⟩
  · rintro _ t w1 ⟨μ1,b1,rfl,h,le3,hS⟩
    unfold syn_kids_j1 at h
    refine nrm (mK3 (mi (mO6 mz))) ?_
    refine xn ?_
    refine cifb (et d3) (fun h4=>?_) (fun h4=>?_)
    · replace h:=iT h4 h
      refine cseq ?_
      refine creg ?_
      refine wl (s_assign ec (dt p2) ?_)
      refine wnil ?_
      refine xn ?_
      refine cret ?_
      refine (fun h=>br (xr h)) ?_
      obtain rfl:=oI h
      refine ret1 rfl d2 ?_
      exact ⟨_,rfl,le3,hS⟩
    · replace h:=iF h4 h
      refine cseq ?_
      refine ccutE (rg 11 10) (by decide) (fun m w=>∃ (μx:M) (b5:Bool),m=(yK10 (.i (.bool b5)::(yO10 11 [])))∧syn_kids_j2 p_1 b5=some r∧Le μ1 μx∧Sq μx w0 w (rsF)) (by rintro _ _ ⟨_,_,rfl,_⟩; rfl) ?_ ?_
      · refine creg ?_
        refine wl (s_move (et d0) (dt (q10 p1)) ?_)
        refine wl (s_leq (et (k10 d1)) ec (dt (q10 p2)) ?_)
        refine wl (s_move (et (k10 d2)) (dt (q10 p3)) ?_)
        refine wspd (k10 d3) (q10 p3) (q10 p3) (fun h6=>?_) (fun h6=>?_)
        · replace h:=iT h6 h
          refine wn rfl (k10 d3) rfl (dt (q10 p4)) ?_
          refine wn rfl (k10 d3) rfl (dt (q10 p5)) ?_
          refine wl (s_pickt (et (k10 d3)) ec (dt (q10 p6)) ?_)
          refine wl (s_move (et (k10 d6)) (dt (q10 p7)) ?_)
          refine wn rfl (k10 d7) rfl (dt (q10 p8)) ?_
          refine wn rfl (k10 d7) rfl (dt (q10 p9)) ?_
          refine wl (s_pickt (et (k10 d7)) ec (dt (q20 p0)) ?_)
          refine wl (s_assign (et (k20 d0)) (dt (q10 p0)) ?_)
          refine wnil ?_
          refine xl ?_
          exact ⟨_,_,rfl,(aK10 (aI (aO10 aZ))),_,true,rfl,h,Le.r,hS⟩
        · replace h:=iF h6 h
          refine wy rfl (k10 d3) (s_move (et d0) (dt (q10 p4)) ?_)
          refine wy rfl (k10 d3) (s_eqi (et (k10 d4)) ec (dt (q10 p5)) ?_)
          refine wl (s_pickf (et (k10 d3)) (et (k10 d5)) (dt (q10 p6)) ?_)
          refine wl (s_move (et (k10 d6)) (dt (q10 p7)) ?_)
          refine wspd (k10 d7) (q10 p7) (q10 p7) (fun h7=>?_) (fun h7=>?_)
          · replace h:=iT h7 h
            refine wn rfl (k10 d7) rfl (dt (q10 p8)) ?_
            refine wn rfl (k10 d7) rfl (dt (q10 p9)) ?_
            refine wl (s_pickt (et (k10 d7)) ec (dt (q20 p0)) ?_)
            refine wl (s_assign (et (k20 d0)) (dt (q10 p0)) ?_)
            refine wnil ?_
            refine xl ?_
            exact ⟨_,_,rfl,(aK10 (aI (aO10 aZ))),_,true,rfl,h,Le.r,hS⟩
          · replace h:=iF h7 h
            refine wy rfl (k10 d7) (s_move (et d0) (dt (q10 p8)) ?_)
            refine wy rfl (k10 d7) (s_eqi (et (k10 d8)) ec (dt (q10 p9)) ?_)
            refine wl (s_pickf (et (k10 d7)) (et (k10 d9)) (dt (q20 p0)) ?_)
            refine wl (s_assign (et (k20 d0)) (dt (q10 p0)) ?_)
            refine wnil ?_
            refine xl ?_
            exact ⟨_,_,rfl,(aK10 (aI (aO10 aZ))),_,(decide (p_1=24)),rfl,h,Le.r,hS⟩
      · rintro _ t w2 ⟨μ2,b5,rfl,h,le8,hS⟩
        unfold syn_kids_j2 at h
        refine nrm (mK10 (mi (mO10 mz))) ?_
        refine xn ?_
        refine cifb (et (k10 d0)) (fun h9=>?_) (fun h9=>?_)
        · replace h:=iT h9 h
          refine cseq ?_
          refine creg ?_
          refine wl (s_assign ec (dt p2) ?_)
          refine wnil ?_
          refine xn ?_
          refine cret ?_
          refine (fun h=>br (xr h)) ?_
          obtain rfl:=oI h
          refine ret1 rfl d2 ?_
          exact ⟨_,rfl,(le3.t le8),hS⟩
        · replace h:=iF h9 h
          refine cseq ?_
          refine ccutE (rg 22 6) (by decide) (fun m w=>∃ (μx:M) (b10:Bool),m=(yK20 (yK1 (.i (.bool b10)::(yO6 22 []))))∧syn_kids_j3 b10=some r∧Le μ2 μx∧Sq μx w0 w (rsF)) (by rintro _ _ ⟨_,_,rfl,_⟩; rfl) ?_ ?_
          · refine creg ?_
            refine wl (s_move (et d0) (dt (q20 p2)) ?_)
            refine wl (s_leq (et (k20 d2)) ec (dt (q20 p3)) ?_)
            refine wl (s_move (et (k20 d3)) (dt (q20 p4)) ?_)
            refine wspd (k20 d4) (q20 p4) (q20 p4) (fun h11=>?_) (fun h11=>?_)
            · replace h:=iT h11 h
              refine wn rfl (k20 d4) rfl (dt (q20 p5)) ?_
              refine wn rfl (k20 d4) rfl (dt (q20 p6)) ?_
              refine wl (s_pickt (et (k20 d4)) ec (dt (q20 p7)) ?_)
              refine wl (s_assign (et (k20 d7)) (dt (q20 p1)) ?_)
              refine wnil ?_
              refine xl ?_
              exact ⟨_,_,rfl,(aK20 (aK1 (aI (aO6 aZ)))),_,true,rfl,h,Le.r,hS⟩
            · replace h:=iF h11 h
              refine wy rfl (k20 d4) (s_move (et d0) (dt (q20 p5)) ?_)
              refine wy rfl (k20 d4) (s_eqi (et (k20 d5)) ec (dt (q20 p6)) ?_)
              refine wl (s_pickf (et (k20 d4)) (et (k20 d6)) (dt (q20 p7)) ?_)
              refine wl (s_assign (et (k20 d7)) (dt (q20 p1)) ?_)
              refine wnil ?_
              refine xl ?_
              exact ⟨_,_,rfl,(aK20 (aK1 (aI (aO6 aZ)))),_,(decide (p_1=23)),rfl,h,Le.r,hS⟩
          · rintro _ t w3 ⟨μ3,b10,rfl,h,le12,hS⟩
            unfold syn_kids_j3 at h
            refine nrm (mK20 (mK1 (mi (mO6 mz)))) ?_
            refine xn ?_
            refine cifb (et (k20 d1)) (fun h13=>?_) (fun h13=>?_)
            · replace h:=iT h13 h
              refine cseq ?_
              refine creg ?_
              refine wl (s_assign ec (dt p2) ?_)
              refine wnil ?_
              refine xn ?_
              refine cret ?_
              refine (fun h=>br (xr h)) ?_
              obtain rfl:=oI h
              refine ret1 rfl d2 ?_
              exact ⟨_,rfl,(le3.t (le8.t le12)),hS⟩
            · replace h:=iF h13 h
              refine cskip ?_
              refine (fun h=>bn (xn h)) ?_
              refine cseq ?_
              refine creg ?_
              refine wl (s_assign ec (dt p2) ?_)
              refine wnil ?_
              refine xn ?_
              refine cret ?_
              obtain rfl:=oI h
              refine ret1 rfl d2 ?_
              exact ⟨_,rfl,(le3.t (le8.t le12)),hS⟩
theorem syn_node_w {μ0:M} {w0 w:World} {rsF:List Res} (hg:Le Gm μ0) {b1:Nat} {node_2:Int} {p_2:Int} {r:Int×Int}  (h:syn_node node_2 p_2=some r) (hS:Sq μ0 w0 w (.blk b1 76 [.int .i64 node_2]::rsF)):CallsV Tryd.prog 38 [.pointer (some ⟨b1,0,none⟩),.int .i64 p_2] w (fun v w'=>∃ (μ':M) ,v=.int .i64 r.1∧Le μ0 μ'∧Sq μ' w0 w' (.blk b1 76 [.int .i64 r.2]::rsF)):=by
  unfold syn_node at h
  refine enter Tryd.func38 rfl (frm:=[_,_,_,_,_,_,_,_,_,_,_,_,_,_,_,_,_,_,_,_,_]) rfl ?_
  refine cseq ?_
  refine creg ?_
  refine wl (s_assign ec (dt p4) ?_)
  refine wnil ?_
  refine xn ?_
  refine cseq ?_
  refine cseq ?_
  refine creg ?_
  refine wl (s_move (et d0) (dt p5) ?_)
  refine wl (s_nilck (et d5) (dt p6) ?_)
  refine wl (s_fa fa76_0 (et d6) rfl (dt p7) ?_)
  refine wl (s_load ti3 (et d7) ((hS.blk d0).cell d0) (dt p8) ?_)
  replace h:=bI h; obtain ⟨i3,g4,h⟩:=h
  refine wl (s_addc (et d8) ec g4 (dt p9) ?_)
  refine wl (s_nilck (et d5) (dt (q10 p0)) ?_)
  refine wl (s_fa fa76_0 (et (k10 d0)) rfl (dt (q10 p1)) ?_)
  refine wl (s_store1 ti3 (et (k10 d1)) (et d9) rfl hS d0 p0 rfl p0 dn ?_)
  clear hS; intro w1 hS
  refine wnil ?_
  refine xn ?_
  refine cseq ?_
  refine ccutE (rg 12 8) (by decide) (fun m w=>∃ (μx:M) (b5:Bool),m=(yK10 (yK2 (yO8 12 (.i (.bool b5)::[]))))∧syn_node_j1 i3 b5=some r∧Le μ0 μx∧Sq μx w0 w (.blk b1 76 [.int .i64 i3]::rsF)) (by rintro _ _ ⟨_,_,rfl,_⟩; rfl) ?_ ?_
  · refine creg ?_
    refine wl (s_move (et d0) (dt (q10 p2)) ?_)
    refine wl (s_nilck (et (k10 d2)) (dt (q10 p3)) ?_)
    refine wl (s_fa fa76_0 (et (k10 d3)) rfl (dt (q10 p4)) ?_)
    refine wl (s_load ti3 (et (k10 d4)) ((hS.blk d0).cell d0) (dt (q10 p5)) ?_)
    refine wl (s_gtr (et (k10 d5)) ec (dt (q10 p6)) ?_)
    refine wl (s_move (et (k10 d6)) (dt (q10 p7)) ?_)
    refine wspd (k10 d7) (q10 p7) (q10 p7) (fun h6=>?_) (fun h6=>?_)
    · replace h:=iT h6 h
      refine wn rfl (k10 d7) rfl (dt (q10 p8)) ?_
      refine wn rfl (k10 d7) rfl (dt (q10 p9)) ?_
      refine wl (s_pickt (et (k10 d7)) ec (dt (q20 p0)) ?_)
      refine wnil ?_
      refine xl ?_
      exact ⟨_,_,rfl,(aK10 (aK2 (aO8 (aI aZ)))),_,true,rfl,h,Le.r,hS⟩
    · replace h:=iF h6 h
      refine wy rfl (k10 d7) (s_move (et d1) (dt (q10 p8)) ?_)
      refine wy rfl (k10 d7) (s_gtr (et (k10 d8)) ec (dt (q10 p9)) ?_)
      refine wl (s_pickf (et (k10 d7)) (et (k10 d9)) (dt (q20 p0)) ?_)
      refine wnil ?_
      refine xl ?_
      exact ⟨_,_,rfl,(aK10 (aK2 (aO8 (aI aZ)))),_,(decide ((40:Int)<p_2)),rfl,h,Le.r,hS⟩
  · rintro _ t w2 ⟨μ1,b5,rfl,h,le7,hS⟩
    unfold syn_node_j1 at h
    refine nrm (mK10 (mK2 (mO8 (mi mz)))) ?_
    refine xn ?_
    refine cifb (et (k20 d0)) (fun h8=>?_) (fun h8=>?_)
    · replace h:=iT h8 h
      refine cseq ?_
      refine creg ?_
      refine wl (s_assign ec (dt p4) ?_)
      refine wnil ?_
      refine xn ?_
      refine cret ?_
      refine xr ?_
      obtain rfl:=oI h
      refine ret1 rfl d4 ?_
      exact ⟨_,rfl,le7,hS⟩
    · replace h:=iF h8 h
      refine cskip ?_
      refine xn ?_
      refine cseq ?_
      refine creg ?_
      refine wl (s_assign ec (dt p4) ?_)
      refine wnil ?_
      refine xn ?_
      refine cret ?_
      obtain rfl:=oI h
      refine ret1 rfl d4 ?_
      exact ⟨_,rfl,le7,hS⟩
theorem syn_typ_w {fu:Nat} {μ0:M} {w0 w:World} {rsF:List Res} (hg:Le Gm μ0) {p_1:TType} {r:Int}  (h:syn_typ fu p_1=some r) (hS:Sq μ0 w0 w (rsF)):CallsV Tryd.prog 39 [.agg ⟨[.int .i64 p_1.Kind,S p_1.Gen]⟩] w (fun v w'=>∃ (μ':M) ,v=.int .i64 r∧Le μ0 μ'∧Sq μ' w0 w' (rsF)):=by
  unfold syn_typ at h
  refine enter Tryd.func39 rfl (frm:=[_,_,_,_,_,_,_,_,_,_,_,_,_,_,_,_,_,_,_,_,_,_]) rfl ?_
  refine cseq ?_
  refine creg ?_
  refine wl (s_box (et d0) rfl hS ?_); clear hS; intro b1 w1 hb2 hS; refine pu (dt p1) ?_
  refine wl (s_assign ec (dt p2) ?_)
  refine wnil ?_
  refine xn ?_
  refine cseq ?_
  refine cblock ?_
  refine cseq ?_
  refine ccutE (rg 4 8) (by decide) (fun m w=>∃ (μx:M) (b3:Bool),m=(yK3 (.i (.bool b3)::(yO8 4 [])))∧syn_typ_j1 fu p_1 b3=some r∧Le μ0 μx∧Sq μx w0 w (.blk b1 32 [.int .i64 p_1.Kind,S p_1.Gen]::rsF)) (by rintro _ _ ⟨_,_,rfl,_⟩; rfl) ?_ ?_
  · refine creg ?_
    refine wl (s_fa fa32_0 (et d1) rfl (dt p4) ?_)
    refine wl (s_load ti3 (et d4) ((hS.blk d0).cell d0) (dt p5) ?_)
    refine wl (s_lss (et d5) ec (dt p6) ?_)
    refine wl (s_move (et d6) (dt p7) ?_)
    refine wspd d7 p7 p7 (fun h4=>?_) (fun h4=>?_)
    · replace h:=iT h4 h
      refine wn rfl d7 rfl (dt p8) ?_
      refine wn rfl d7 rfl (dt p9) ?_
      refine wn rfl d7 rfl (dt (q10 p0)) ?_
      refine wl (s_pickt (et d7) ec (dt (q10 p1)) ?_)
      refine wl (s_assign (et (k10 d1)) (dt p3) ?_)
      refine wnil ?_
      refine xl ?_
      exact ⟨_,_,rfl,(aK3 (aI (aO8 aZ))),_,true,rfl,h,Le.r,hS⟩
    · replace h:=iF h4 h
      refine wy rfl d7 (s_fa fa32_0 (et d1) rfl (dt p8) ?_)
      refine wy rfl d7 (s_load ti3 (et d8) ((hS.blk d0).cell d0) (dt p9) ?_)
      refine wy rfl d7 (s_gtr (et d9) ec (dt (q10 p0)) ?_)
      refine wl (s_pickf (et d7) (et (k10 d0)) (dt (q10 p1)) ?_)
      refine wl (s_assign (et (k10 d1)) (dt p3) ?_)
      refine wnil ?_
      refine xl ?_
      exact ⟨_,_,rfl,(aK3 (aI (aO8 aZ))),_,(decide ((3:Int)<p_1.Kind)),rfl,h,Le.r,hS⟩
  · rintro _ t w2 ⟨μ1,b3,rfl,h,le5,hS⟩
    unfold syn_typ_j1 at h
    refine nrm (mK3 (mi (mO8 mz))) ?_
    refine xn ?_
    refine cifb (et d3) (fun h6=>?_) (fun h6=>?_)
    · replace h:=iT h6 h
      refine cseq ?_
      refine creg ?_
      refine wl (s_assign ec (dt p2) ?_)
      refine wnil ?_
      refine xn ?_
      refine cret ?_
      refine (fun h=>br (xr h)) ?_
      obtain rfl:=oI h
      refine ret1 rfl d2 ?_
      replace hS:=hS.drop Rm.z
      exact ⟨_,rfl,le5,hS⟩
    · replace h:=iF h6 h
      refine cseq ?_
      refine ccutE (rg 13 9) (by decide) (fun m w=>∃ (μx:M) (b7:Bool),m=(yK10 (yK2 (.i (.bool b7)::(yO9 13 []))))∧syn_typ_j2 b7=some r∧Le μ1 μx∧Sq μx w0 w (rsF)) (by rintro _ _ ⟨_,_,rfl,_⟩; rfl) ?_ ?_
      · refine creg ?_
        refine wl (s_fa fa32_0 (et d1) rfl (dt (q10 p3)) ?_)
        refine wl (s_load ti3 (et (k10 d3)) ((hS.blk d0).cell d0) (dt (q10 p4)) ?_)
        refine wl (s_eqi (et (k10 d4)) ec (dt (q10 p5)) ?_)
        refine wl (s_move (et (k10 d5)) (dt (q10 p6)) ?_)
        refine wspd (k10 d6) (q10 p6) (q10 p6) (fun h8=>?_) (fun h8=>?_)
        · replace h:=iT h8 h
          refine wy rfl (k10 d6) (s_fa fa32_1 (et d1) rfl (dt (q10 p7)) ?_)
          refine wy rfl (k10 d6) (s_load ti9 (et (k10 d7)) ((hS.blk d0).cell d1) (dt (q10 p8)) ?_)
          replace h:=bI h; obtain ⟨r9,g10,h⟩:=h
          refine wy rfl (k10 d6) (s_callv isfn35 ef (e1 (et (k10 d8)) e0) (lex_named_w (hg.t le5) g10 hS) ?_)
          rintro _ w3 ⟨μ2,rfl,le11,hS⟩
          refine pu (dt (q10 p9)) ?_
          refine wy rfl (k10 d6) (s_not (et (k10 d9)) (dt (q20 p0)) ?_)
          refine wl (s_pickt (et (k10 d6)) (et (k20 d0)) (dt (q20 p1)) ?_)
          refine wl (s_assign (et (k20 d1)) (dt (q10 p2)) ?_)
          refine wnil ?_
          refine xl ?_
          replace hS:=hS.drop Rm.z
          exact ⟨_,_,rfl,(aK10 (aK2 (aI (aO9 aZ)))),_,(!r9),rfl,h,le11,hS⟩
        · replace h:=iF h8 h
          refine wn rfl (k10 d6) rfl (dt (q10 p7)) ?_
          refine wn rfl (k10 d6) rfl (dt (q10 p8)) ?_
          refine wn rfl (k10 d6) rfl (dt (q10 p9)) ?_
          refine wn rfl (k10 d6) rfl (dt (q20 p0)) ?_
          refine wl (s_pickf (et (k10 d6)) ec (dt (q20 p1)) ?_)
          refine wl (s_assign (et (k20 d1)) (dt (q10 p2)) ?_)
          refine wnil ?_
          refine xl ?_
          replace hS:=hS.drop Rm.z
          exact ⟨_,_,rfl,(aK10 (aK2 (aI (aO9 aZ)))),_,false,rfl,h,Le.r,hS⟩
      · rintro _ t w4 ⟨μ3,b7,rfl,h,le12,hS⟩
        unfold syn_typ_j2 at h
        refine nrm (mK10 (mK2 (mi (mO9 mz)))) ?_
        refine xn ?_
        refine cifb (et (k10 d2)) (fun h13=>?_) (fun h13=>?_)
        · replace h:=iT h13 h
          refine cseq ?_
          refine creg ?_
          refine wl (s_assign ec (dt p2) ?_)
          refine wnil ?_
          refine xn ?_
          refine cret ?_
          refine (fun h=>br (xr h)) ?_
          obtain rfl:=oI h
          refine ret1 rfl d2 ?_
          exact ⟨_,rfl,(le5.t le12),hS⟩
        · replace h:=iF h13 h
          refine cskip ?_
          refine (fun h=>bn (xn h)) ?_
          refine cseq ?_
          refine creg ?_
          refine wl (s_assign ec (dt p2) ?_)
          refine wnil ?_
          refine xn ?_
          refine cret ?_
          obtain rfl:=oI h
          refine ret1 rfl d2 ?_
          exact ⟨_,rfl,(le5.t le12),hS⟩
structure SynExprSound (sf:SynExpr):Prop where
  syn_expr:∀ {μ0:M} {w0 w:World} {rsF:List Res} (hg:Le Gm μ0) {b1:Nat} {node_2:Int} {p_2:TExpr} {b3:Nat} {o4:Nat} {a5:Option Addr} {c6:Nat} {p_3:Int} {r:Int×Int} (m7:Sl μ0 a5 c6 p_2.Kids) (m8:At μ0 b3 o4 [.int .i64 p_2.Kind,.int .i64 p_2.N,S p_2.Name,.slice a5 p_2.Kids.length c6]) (h:sf.syn_expr node_2 p_2 p_3=some r) (hS:Sq μ0 w0 w (.blk b1 76 [.int .i64 node_2]::rsF)),CallsV Tryd.prog 59 [.pointer (some ⟨b1,0,none⟩),.pointer (some ⟨b3,o4,none⟩),.int .i64 p_3] w (fun v w'=>∃ (μ':M) ,v=.int .i64 r.1∧Le μ0 μ'∧Sq μ' w0 w' (.blk b1 76 [.int .i64 r.2]::rsF))
theorem syn_expr_w {self:SynExpr} (IH:SynExprSound self) {fu:Nat} {μ0:M} {w0 w:World} {rsF:List Res} (hg:Le Gm μ0) {b1:Nat} {node_2:Int} {p_2:TExpr} {b3:Nat} {o4:Nat} {a5:Option Addr} {c6:Nat} {p_3:Int} {r:Int×Int} (m7:Sl μ0 a5 c6 p_2.Kids) (m8:At μ0 b3 o4 [.int .i64 p_2.Kind,.int .i64 p_2.N,S p_2.Name,.slice a5 p_2.Kids.length c6]) (h:syn_expr fu self node_2 p_2 p_3=some r) (hS:Sq μ0 w0 w (.blk b1 76 [.int .i64 node_2]::rsF)):CallsV Tryd.prog 59 [.pointer (some ⟨b1,0,none⟩),.pointer (some ⟨b3,o4,none⟩),.int .i64 p_3] w (fun v w'=>∃ (μ':M) ,v=.int .i64 r.1∧Le μ0 μ'∧Sq μ' w0 w' (.blk b1 76 [.int .i64 r.2]::rsF)):=by
  unfold syn_expr at h
  refine enter Tryd.func59 rfl (frm:=[_,_,_,_,_,_,_,_,_,_,_,_,_,_,_,_,_,_,_,_,_,_,_,_,_,_,_,_,_,_,_,_,_,_,_,_,_,_,_,_,_,_,_,_,_,_,_,_,_,_,_,_,_,_,_,_,_,_,_,_,_,_,_,_,_,_,_,_,_,_,_,_,_,_,_,_,_,_,_,_,_,_,_,_,_,_,_,_,_,_,_,_,_,_,_,_,_,_,_,_,_,_,_,_,_,_,_,_,_,_,_,_,_,_,_,_,_,_,_,_,_,_,_,_,_,_,_,_,_,_,_,_,_,_,_,_,_,_,_,_,_,_]) rfl ?_
  refine cseq ?_
  refine creg ?_
  refine wl (s_assign ec (dt p6) ?_)
  refine wnil ?_
  refine xn ?_
  refine cseq ?_
  refine cseq ?_
  refine creg ?_
  refine wl (s_move (et d0) (dt (q10 p1)) ?_)
  refine wl (s_move (et d2) (dt (q10 p2)) ?_)
  replace h:=bI h; obtain ⟨r9,g10,h⟩:=h
  refine wl (s_callv isfn38 ef (e1 (et (k10 d1)) (e1 (et (k10 d2)) e0)) (syn_node_w hg g10 hS) ?_)
  rintro _ w1 ⟨μ1,rfl,le11,hS⟩
  refine pu (dt (q10 p3)) ?_
  refine wl (s_assign (et (k10 d3)) (dt p7) ?_)
  refine wnil ?_
  refine xn ?_
  refine cseq ?_
  refine creg ?_
  refine wl (s_move (et d7) (dt (q10 p4)) ?_)
  refine wl (s_nei (et (k10 d4)) ec (dt (q10 p5)) ?_)
  refine wnil ?_
  refine xn ?_
  refine cifd (et (k10 d5)) (fun h12=>?_) (fun h12=>?_)
  · replace h:=iT h12 h
    refine cseq ?_
    refine creg ?_
    refine wl (s_move (et d7) (dt (q10 p6)) ?_)
    refine wl (s_assign (et (k10 d6)) (dt p6) ?_)
    refine wnil ?_
    refine xn ?_
    refine cret ?_
    refine xr ?_
    obtain rfl:=oI h
    refine ret1 rfl d6 ?_
    exact ⟨_,rfl,le11,hS⟩
  · replace h:=iF h12 h
    refine cskip ?_
    refine xn ?_
    refine cseq ?_
    refine cseq ?_
    refine ccutE (rg 17 11) (by decide) (fun m w=>∃ (μx:M) (b13:Bool),m=(yK10 (yK7 (yO10 17 (yO1 27 (.i (.bool b13)::[])))))∧syn_expr_j1 fu self p_2 p_3 r9 b13=some r∧Le μ1 μx∧Sq μx w0 w (.blk b1 76 [.int .i64 r9.2]::rsF)) (by rintro _ _ ⟨_,_,rfl,_⟩; rfl) ?_ ?_
    · refine creg ?_
      refine wl (s_move (et d1) (dt (q10 p7)) ?_)
      refine wl (s_nilck (et (k10 d7)) (dt (q10 p8)) ?_)
      refine wl (s_fa fa39_0 (et (k10 d8)) rfl (dt (q10 p9)) ?_)
      refine wl (s_load ti3 (et (k10 d9)) ((m8 _ (le11 _ hS.a)).one d0) (dt (q20 p0)) ?_)
      refine wl (s_lss (et (k20 d0)) ec (dt (q20 p1)) ?_)
      refine wl (s_move (et (k20 d1)) (dt (q20 p2)) ?_)
      refine wspd (k20 d2) (q20 p2) (q20 p2) (fun h14=>?_) (fun h14=>?_)
      · replace h:=iT h14 h
        refine wn rfl (k20 d2) rfl (dt (q20 p3)) ?_
        refine wn rfl (k20 d2) rfl (dt (q20 p4)) ?_
        refine wn rfl (k20 d2) rfl (dt (q20 p5)) ?_
        refine wn rfl (k20 d2) rfl (dt (q20 p6)) ?_
        refine wn rfl (k20 d2) rfl (dt (q20 p7)) ?_
        refine wl (s_pickt (et (k20 d2)) ec (dt (q20 p8)) ?_)
        refine wnil ?_
        refine xl ?_
        exact ⟨_,_,rfl,(aK10 (aK7 (aO10 (aO1 (aI aZ))))),_,true,rfl,h,Le.r,hS⟩
      · replace h:=iF h14 h
        refine wy rfl (k20 d2) (s_move (et d1) (dt (q20 p3)) ?_)
        refine wy rfl (k20 d2) (s_nilck (et (k20 d3)) (dt (q20 p4)) ?_)
        refine wy rfl (k20 d2) (s_fa fa39_0 (et (k20 d4)) rfl (dt (q20 p5)) ?_)
        refine wy rfl (k20 d2) (s_load ti3 (et (k20 d5)) ((m8 _ (le11 _ hS.a)).one d0) (dt (q20 p6)) ?_)
        refine wy rfl (k20 d2) (s_gtr (et (k20 d6)) ec (dt (q20 p7)) ?_)
        refine wl (s_pickf (et (k20 d2)) (et (k20 d7)) (dt (q20 p8)) ?_)
        refine wnil ?_
        refine xl ?_
        exact ⟨_,_,rfl,(aK10 (aK7 (aO10 (aO1 (aI aZ))))),_,(decide ((24:Int)<p_2.Kind)),rfl,h,Le.r,hS⟩
    · rintro _ t w2 ⟨μ2,b13,rfl,h,le15,hS⟩
      unfold syn_expr_j1 at h
      refine nrm (mK10 (mK7 (mO10 (mO1 (mi mz))))) ?_
      refine xn ?_
      refine cifb (et (k20 d8)) (fun h16=>?_) (fun h16=>?_)
      · replace h:=iT h16 h
        refine cseq ?_
        refine creg ?_
        refine wl (s_assign ec (dt p6) ?_)
        refine wnil ?_
        refine xn ?_
        refine cret ?_
        refine xr ?_
        obtain rfl:=oI h
        refine ret1 rfl d6 ?_
        exact ⟨_,rfl,(le11.t le15),hS⟩
      · replace h:=iF h16 h
        refine cskip ?_
        refine xn ?_
        refine cseq ?_
        refine creg ?_
        refine wl (s_move (et d1) (dt (q20 p9)) ?_)
        refine wl (s_nilck (et (k20 d9)) (dt (q30 p0)) ?_)
        refine wl (s_fa fa39_0 (et (k30 d0)) rfl (dt (q30 p1)) ?_)
        refine wl (s_load ti3 (et (k30 d1)) ((m8 _ ((le11.t le15) _ hS.a)).one d0) (dt (q30 p2)) ?_)
        replace h:=bI h; obtain ⟨r17,g18,h⟩:=h
        refine wl (s_callv isfn64 ef (e1 (et (k30 d2)) e0) (syn_kids_w (hg.t (le11.t le15)) g18 hS) ?_)
        rintro _ w3 ⟨μ3,rfl,le19,hS⟩
        refine pu (dt (q30 p3)) ?_
        refine wl (s_assign (et (k30 d3)) (dt p8) ?_)
        refine wnil ?_
        refine xn ?_
        refine cseq ?_
        refine cblock ?_
        refine cseq ?_
        refine cseq ?_
        refine ccutE (rg 35 19) (by decide) (fun m w=>∃ (μx:M) (b20:Bool),m=(yK20 (yK10 (yK4 (.i (.bool b20)::(yO10 35 (yO9 45 []))))))∧syn_expr_j2 fu self p_2 p_3 r9 r17 b20=some r∧Le μ3 μx∧Sq μx w0 w (.blk b1 76 [.int .i64 r9.2]::rsF)) (by rintro _ _ ⟨_,_,rfl,_⟩; rfl) ?_ ?_
        · refine creg ?_
          refine wl (s_move (et d1) (dt (q30 p5)) ?_)
          refine wl (s_nilck (et (k30 d5)) (dt (q30 p6)) ?_)
          refine wl (s_fa fa39_0 (et (k30 d6)) rfl (dt (q30 p7)) ?_)
          refine wl (s_load ti3 (et (k30 d7)) ((m8 _ ((le11.t (le15.t le19)) _ hS.a)).one d0) (dt (q30 p8)) ?_)
          refine wl (s_eqi (et (k30 d8)) ec (dt (q30 p9)) ?_)
          refine wl (s_move (et (k30 d9)) (dt (q40 p0)) ?_)
          refine wspd (k40 d0) (q40 p0) (q40 p0) (fun h21=>?_) (fun h21=>?_)
          · replace h:=iT h21 h
            refine wy rfl (k40 d0) (s_move (et d1) (dt (q40 p1)) ?_)
            refine wy rfl (k40 d0) (s_nilck (et (k40 d1)) (dt (q40 p2)) ?_)
            refine wy rfl (k40 d0) (s_fa fa39_1 (et (k40 d2)) rfl (dt (q40 p3)) ?_)
            refine wy rfl (k40 d0) (s_load ti2 (et (k40 d3)) ((m8 _ ((le11.t (le15.t le19)) _ hS.a)).one d1) (dt (q40 p4)) ?_)
            refine wy rfl (k40 d0) (s_lss (et (k40 d4)) ec (dt (q40 p5)) ?_)
            refine wy rfl (k40 d0) (s_move (et (k40 d5)) (dt (q40 p6)) ?_)
            refine wspd (k40 d6) (q40 p6) (q40 p6) (fun h22=>?_) (fun h22=>?_)
            · replace h:=iT h22 h
              refine wn rfl (k40 d6) rfl (dt (q40 p7)) ?_
              refine wn rfl (k40 d6) rfl (dt (q40 p8)) ?_
              refine wn rfl (k40 d6) rfl (dt (q40 p9)) ?_
              refine wn rfl (k40 d6) rfl (dt (q50 p0)) ?_
              refine wn rfl (k40 d6) rfl (dt (q50 p1)) ?_
              refine wy rfl (k40 d0) (s_pickt (et (k40 d6)) ec (dt (q50 p2)) ?_)
              refine wl (s_pickt (et (k40 d0)) (et (k50 d2)) (dt (q50 p3)) ?_)
              refine wl (s_assign (et (k50 d3)) (dt (q30 p4)) ?_)
              refine wnil ?_
              refine xl ?_
              exact ⟨_,_,rfl,(aK20 (aK10 (aK4 (aI (aO10 (aO9 aZ)))))),_,true,rfl,h,Le.r,hS⟩
            · replace h:=iF h22 h
              refine wy rfl (k40 d6) (s_move (et d1) (dt (q40 p7)) ?_)
              refine wy rfl (k40 d6) (s_nilck (et (k40 d7)) (dt (q40 p8)) ?_)
              refine wy rfl (k40 d6) (s_fa fa39_1 (et (k40 d8)) rfl (dt (q40 p9)) ?_)
              refine wy rfl (k40 d6) (s_load ti2 (et (k40 d9)) ((m8 _ ((le11.t (le15.t le19)) _ hS.a)).one d1) (dt (q50 p0)) ?_)
              refine wy rfl (k40 d6) (s_gtr (et (k50 d0)) ec (dt (q50 p1)) ?_)
              refine wy rfl (k40 d0) (s_pickf (et (k40 d6)) (et (k50 d1)) (dt (q50 p2)) ?_)
              refine wl (s_pickt (et (k40 d0)) (et (k50 d2)) (dt (q50 p3)) ?_)
              refine wl (s_assign (et (k50 d3)) (dt (q30 p4)) ?_)
              refine wnil ?_
              refine xl ?_
              exact ⟨_,_,rfl,(aK20 (aK10 (aK4 (aI (aO10 (aO9 aZ)))))),_,(decide ((999999999999999:Int)<p_2.N)),rfl,h,Le.r,hS⟩
          · replace h:=iF h21 h
            refine wn rfl (k40 d0) rfl (dt (q40 p1)) ?_
            refine wn rfl (k40 d0) rfl (dt (q40 p2)) ?_
            refine wn rfl (k40 d0) rfl (dt (q40 p3)) ?_
            refine wn rfl (k40 d0) rfl (dt (q40 p4)) ?_
            refine wn rfl (k40 d0) rfl (dt (q40 p5)) ?_
            refine wn rfl (k40 d0) rfl (dt (q40 p6)) ?_
            refine wu rfl (k40 d6) (dt (q40 p7)) ?_
            refine wu rfl (k40 d6) (dt (q40 p8)) ?_
            refine wu rfl (k40 d6) (dt (q40 p9)) ?_
            refine wu rfl (k40 d6) (dt (q50 p0)) ?_
            refine wu rfl (k40 d6) (dt (q50 p1)) ?_
            refine wn rfl (k40 d0) rfl (dt (q50 p2)) ?_
            refine wl (s_pickf (et (k40 d0)) ec (dt (q50 p3)) ?_)
            refine wl (s_assign (et (k50 d3)) (dt (q30 p4)) ?_)
            refine wnil ?_
            refine xl ?_
            exact ⟨_,_,rfl,(aK20 (aK10 (aK4 (aI (aO10 (aO9 aZ)))))),_,false,rfl,h,Le.r,hS⟩
        · rintro _ t w4 ⟨μ4,b20,rfl,h,le23,hS⟩
          unfold syn_expr_j2 at h
          refine nrm (mK20 (mK10 (mK4 (mi (mO10 (mO9 mz)))))) ?_
          refine xn ?_
          refine ccutE (rg 54 19) (by decide) (fun m w=>∃ (μx:M) (b24:Bool),m=(yK20 (yK10 (yK4 (.i (.bool b24)::(yK10 (yK9 (yO10 54 (yO9 64 []))))))))∧syn_expr_j3 fu self p_2 p_3 r9 r17 b24=some r∧Le μ4 μx∧Sq μx w0 w (.blk b1 76 [.int .i64 r9.2]::rsF)) (by rintro _ _ ⟨_,_,rfl,_⟩; rfl) ?_ ?_
          · refine cifb (et (k30 d4)) (fun h25=>?_) (fun h25=>?_)
            · replace h:=iT h25 h
              refine cskip ?_
              refine xl ?_
              exact ⟨_,_,rfl,(aK20 (aK10 (aK4 (aI (aK10 (aK9 (aO10 (aO9 aZ)))))))),_,b20,rfl,h,Le.r,hS⟩
            · replace h:=iF h25 h
              refine creg ?_
              refine wl (s_move (et d1) (dt (q50 p4)) ?_)
              refine wl (s_nilck (et (k50 d4)) (dt (q50 p5)) ?_)
              refine wl (s_fa fa39_0 (et (k50 d5)) rfl (dt (q50 p6)) ?_)
              refine wl (s_load ti3 (et (k50 d6)) ((m8 _ ((le11.t (le15.t (le19.t le23))) _ hS.a)).one d0) (dt (q50 p7)) ?_)
              refine wl (s_eqi (et (k50 d7)) ec (dt (q50 p8)) ?_)
              refine wl (s_move (et (k50 d8)) (dt (q50 p9)) ?_)
              refine wspd (k50 d9) (q50 p9) (q50 p9) (fun h26=>?_) (fun h26=>?_)
              · replace h:=iT h26 h
                refine wy rfl (k50 d9) (s_move (et d1) (dt (q60 p0)) ?_)
                refine wy rfl (k50 d9) (s_nilck (et (k60 d0)) (dt (q60 p1)) ?_)
                refine wy rfl (k50 d9) (s_fa fa39_1 (et (k60 d1)) rfl (dt (q60 p2)) ?_)
                refine wy rfl (k50 d9) (s_load ti2 (et (k60 d2)) ((m8 _ ((le11.t (le15.t (le19.t le23))) _ hS.a)).one d1) (dt (q60 p3)) ?_)
                refine wy rfl (k50 d9) (s_nei (et (k60 d3)) ec (dt (q60 p4)) ?_)
                refine wl (s_pickt (et (k50 d9)) (et (k60 d4)) (dt (q60 p5)) ?_)
                refine wl (s_move (et (k60 d5)) (dt (q60 p6)) ?_)
                refine wspd (k60 d6) (q60 p6) (q60 p6) (fun h27=>?_) (fun h27=>?_)
                · replace h:=iT h27 h
                  refine wy rfl (k60 d6) (s_move (et d1) (dt (q60 p7)) ?_)
                  refine wy rfl (k60 d6) (s_nilck (et (k60 d7)) (dt (q60 p8)) ?_)
                  refine wy rfl (k60 d6) (s_fa fa39_1 (et (k60 d8)) rfl (dt (q60 p9)) ?_)
                  refine wy rfl (k60 d6) (s_load ti2 (et (k60 d9)) ((m8 _ ((le11.t (le15.t (le19.t le23))) _ hS.a)).one d1) (dt (q70 p0)) ?_)
                  refine wy rfl (k60 d6) (s_nei (et (k70 d0)) ec (dt (q70 p1)) ?_)
                  refine wl (s_pickt (et (k60 d6)) (et (k70 d1)) (dt (q70 p2)) ?_)
                  refine wl (s_assign (et (k70 d2)) (dt (q30 p4)) ?_)
                  refine wnil ?_
                  refine xl ?_
                  exact ⟨_,_,rfl,(aK20 (aK10 (aK4 (aI (aK10 (aK9 (aO10 (aO9 aZ)))))))),_,(decide (p_2.N≠1)),rfl,h,Le.r,hS⟩
                · replace h:=iF h27 h
                  refine wn rfl (k60 d6) rfl (dt (q60 p7)) ?_
                  refine wn rfl (k60 d6) rfl (dt (q60 p8)) ?_
                  refine wn rfl (k60 d6) rfl (dt (q60 p9)) ?_
                  refine wn rfl (k60 d6) rfl (dt (q70 p0)) ?_
                  refine wn rfl (k60 d6) rfl (dt (q70 p1)) ?_
                  refine wl (s_pickf (et (k60 d6)) ec (dt (q70 p2)) ?_)
                  refine wl (s_assign (et (k70 d2)) (dt (q30 p4)) ?_)
                  refine wnil ?_
                  refine xl ?_
                  exact ⟨_,_,rfl,(aK20 (aK10 (aK4 (aI (aK10 (aK9 (aO10 (aO9 aZ)))))))),_,false,rfl,h,Le.r,hS⟩
              · replace h:=iF h26 h
                refine wn rfl (k50 d9) rfl (dt (q60 p0)) ?_
                refine wn rfl (k50 d9) rfl (dt (q60 p1)) ?_
                refine wn rfl (k50 d9) rfl (dt (q60 p2)) ?_
                refine wn rfl (k50 d9) rfl (dt (q60 p3)) ?_
                refine wn rfl (k50 d9) rfl (dt (q60 p4)) ?_
                refine wl (s_pickf (et (k50 d9)) ec (dt (q60 p5)) ?_)
                refine wl (s_move (et (k60 d5)) (dt (q60 p6)) ?_)
                refine wn rfl (k60 d6) rfl (dt (q60 p7)) ?_
                refine wn rfl (k60 d6) rfl (dt (q60 p8)) ?_
                refine wn rfl (k60 d6) rfl (dt (q60 p9)) ?_
                refine wn rfl (k60 d6) rfl (dt (q70 p0)) ?_
                refine wn rfl (k60 d6) rfl (dt (q70 p1)) ?_
                refine wl (s_pickf (et (k60 d6)) ec (dt (q70 p2)) ?_)
                refine wl (s_assign (et (k70 d2)) (dt (q30 p4)) ?_)
                refine wnil ?_
                refine xl ?_
                exact ⟨_,_,rfl,(aK20 (aK10 (aK4 (aI (aK10 (aK9 (aO10 (aO9 aZ)))))))),_,false,rfl,h,Le.r,hS⟩
          · rintro _ t w5 ⟨μ5,b24,rfl,h,le28,hS⟩
            unfold syn_expr_j3 at h
            refine nrm (mK20 (mK10 (mK4 (mi (mK10 (mK9 (mO10 (mO9 mz)))))))) ?_
            refine xn ?_
            refine cifb (et (k30 d4)) (fun h29=>?_) (fun h29=>?_)
            · replace h:=iT h29 h
              refine cseq ?_
              refine creg ?_
              refine wl (s_assign ec (dt p6) ?_)
              refine wnil ?_
              refine xn ?_
              refine cret ?_
              refine (fun h=>br (xr h)) ?_
              obtain rfl:=oI h
              refine ret1 rfl d6 ?_
              exact ⟨_,rfl,(le11.t (le15.t (le19.t (le23.t le28)))),hS⟩
            · replace h:=iF h29 h
              refine cseq ?_
              refine ccutE (rg 74 24) (by decide +kernel) (fun m w=>∃ (μx:M) (b30:Bool),m=(yK50 (yK20 (yK3 (.i (.bool b30)::(yO20 74 (yO4 94 []))))))∧syn_expr_j4 self p_2 p_3 r9 r17 b30=some r∧Le μ5 μx∧Sq μx w0 w (.blk b1 76 [.int .i64 r9.2]::rsF)) (by rintro _ _ ⟨_,_,rfl,_⟩; rfl) ?_ ?_
              · refine creg ?_
                refine wl (s_move (et d1) (dt (q70 p4)) ?_)
                refine wl (s_nilck (et (k70 d4)) (dt (q70 p5)) ?_)
                refine wl (s_fa fa39_0 (et (k70 d5)) rfl (dt (q70 p6)) ?_)
                refine wl (s_load ti3 (et (k70 d6)) ((m8 _ ((le11.t (le15.t (le19.t (le23.t le28)))) _ hS.a)).one d0) (dt (q70 p7)) ?_)
                refine wl (s_eqi (et (k70 d7)) ec (dt (q70 p8)) ?_)
                refine wl (s_move (et (k70 d8)) (dt (q70 p9)) ?_)
                refine wspd (k70 d9) (q70 p9) (q70 p9) (fun h31=>?_) (fun h31=>?_)
                · replace h:=iT h31 h
                  refine wn rfl (k70 d9) rfl (dt (q80 p0)) ?_
                  refine wn rfl (k70 d9) rfl (dt (q80 p1)) ?_
                  refine wn rfl (k70 d9) rfl (dt (q80 p2)) ?_
                  refine wn rfl (k70 d9) rfl (dt (q80 p3)) ?_
                  refine wn rfl (k70 d9) rfl (dt (q80 p4)) ?_
                  refine wl (s_pickt (et (k70 d9)) ec (dt (q80 p5)) ?_)
                  refine wl (s_move (et (k80 d5)) (dt (q80 p6)) ?_)
                  refine wn rfl (k80 d6) rfl (dt (q80 p7)) ?_
                  refine wn rfl (k80 d6) rfl (dt (q80 p8)) ?_
                  refine wl (s_pickt (et (k80 d6)) ec (dt (q80 p9)) ?_)
                  refine wl (s_move (et (k80 d9)) (dt (q90 p0)) ?_)
                  refine wy rfl (k90 d0) (s_move (et d1) (dt (q90 p1)) ?_)
                  refine wy rfl (k90 d0) (s_nilck (et (k90 d1)) (dt (q90 p2)) ?_)
                  refine wy rfl (k90 d0) (s_fa fa39_2 (et (k90 d2)) rfl (dt (q90 p3)) ?_)
                  refine wy rfl (k90 d0) (s_load ti9 (et (k90 d3)) ((m8 _ ((le11.t (le15.t (le19.t (le23.t le28)))) _ hS.a)).one d2) (dt (q90 p4)) ?_)
                  replace h:=bI h; obtain ⟨r32,g33,h⟩:=h
                  refine wy rfl (k90 d0) (s_callv isfn35 ef (e1 (et (k90 d4)) e0) (lex_named_w (hg.t (le11.t (le15.t (le19.t (le23.t le28))))) g33 hS) ?_)
                  rintro _ w6 ⟨μ6,rfl,le34,hS⟩
                  refine pu (dt (q90 p5)) ?_
                  refine wy rfl (k90 d0) (s_not (et (k90 d5)) (dt (q90 p6)) ?_)
                  refine wl (s_pickt (et (k90 d0)) (et (k90 d6)) (dt (q90 p7)) ?_)
                  refine wl (s_assign (et (k90 d7)) (dt (q70 p3)) ?_)
                  refine wnil ?_
                  refine xl ?_
                  exact ⟨_,_,rfl,(aK50 (aK20 (aK3 (aI (aO20 (aO4 aZ)))))),_,(!r32),rfl,h,le34,hS⟩
                · replace h:=iF h31 h
                  refine wy rfl (k70 d9) (s_move (et d1) (dt (q80 p0)) ?_)
                  refine wy rfl (k70 d9) (s_nilck (et (k80 d0)) (dt (q80 p1)) ?_)
                  refine wy rfl (k70 d9) (s_fa fa39_0 (et (k80 d1)) rfl (dt (q80 p2)) ?_)
                  refine wy rfl (k70 d9) (s_load ti3 (et (k80 d2)) ((m8 _ ((le11.t (le15.t (le19.t (le23.t le28)))) _ hS.a)).one d0) (dt (q80 p3)) ?_)
                  refine wy rfl (k70 d9) (s_eqi (et (k80 d3)) ec (dt (q80 p4)) ?_)
                  refine wl (s_pickf (et (k70 d9)) (et (k80 d4)) (dt (q80 p5)) ?_)
                  refine wl (s_move (et (k80 d5)) (dt (q80 p6)) ?_)
                  refine wspd (k80 d6) (q80 p6) (q80 p6) (fun h35=>?_) (fun h35=>?_)
                  · replace h:=iT h35 h
                    refine wn rfl (k80 d6) rfl (dt (q80 p7)) ?_
                    refine wn rfl (k80 d6) rfl (dt (q80 p8)) ?_
                    refine wl (s_pickt (et (k80 d6)) ec (dt (q80 p9)) ?_)
                    refine wl (s_move (et (k80 d9)) (dt (q90 p0)) ?_)
                    refine wy rfl (k90 d0) (s_move (et d1) (dt (q90 p1)) ?_)
                    refine wy rfl (k90 d0) (s_nilck (et (k90 d1)) (dt (q90 p2)) ?_)
                    refine wy rfl (k90 d0) (s_fa fa39_2 (et (k90 d2)) rfl (dt (q90 p3)) ?_)
                    refine wy rfl (k90 d0) (s_load ti9 (et (k90 d3)) ((m8 _ ((le11.t (le15.t (le19.t (le23.t le28)))) _ hS.a)).one d2) (dt (q90 p4)) ?_)
                    replace h:=bI h; obtain ⟨r36,g37,h⟩:=h
                    refine wy rfl (k90 d0) (s_callv isfn35 ef (e1 (et (k90 d4)) e0) (lex_named_w (hg.t (le11.t (le15.t (le19.t (le23.t le28))))) g37 hS) ?_)
                    rintro _ w7 ⟨μ7,rfl,le38,hS⟩
                    refine pu (dt (q90 p5)) ?_
                    refine wy rfl (k90 d0) (s_not (et (k90 d5)) (dt (q90 p6)) ?_)
                    refine wl (s_pickt (et (k90 d0)) (et (k90 d6)) (dt (q90 p7)) ?_)
                    refine wl (s_assign (et (k90 d7)) (dt (q70 p3)) ?_)
                    refine wnil ?_
                    refine xl ?_
                    exact ⟨_,_,rfl,(aK50 (aK20 (aK3 (aI (aO20 (aO4 aZ)))))),_,(!r36),rfl,h,le38,hS⟩
                  · replace h:=iF h35 h
                    refine wy rfl (k80 d6) (s_move (et d8) (dt (q80 p7)) ?_)
                    refine wy rfl (k80 d6) (s_lss (et (k80 d7)) ec (dt (q80 p8)) ?_)
                    refine wl (s_pickf (et (k80 d6)) (et (k80 d8)) (dt (q80 p9)) ?_)
                    refine wl (s_move (et (k80 d9)) (dt (q90 p0)) ?_)
                    refine wspd (k90 d0) (q90 p0) (q90 p0) (fun h39=>?_) (fun h39=>?_)
                    · replace h:=iT h39 h
                      refine wy rfl (k90 d0) (s_move (et d1) (dt (q90 p1)) ?_)
                      refine wy rfl (k90 d0) (s_nilck (et (k90 d1)) (dt (q90 p2)) ?_)
                      refine wy rfl (k90 d0) (s_fa fa39_2 (et (k90 d2)) rfl (dt (q90 p3)) ?_)
                      refine wy rfl (k90 d0) (s_load ti9 (et (k90 d3)) ((m8 _ ((le11.t (le15.t (le19.t (le23.t le28)))) _ hS.a)).one d2) (dt (q90 p4)) ?_)
                      replace h:=bI h; obtain ⟨r40,g41,h⟩:=h
                      refine wy rfl (k90 d0) (s_callv isfn35 ef (e1 (et (k90 d4)) e0) (lex_named_w (hg.t (le11.t (le15.t (le19.t (le23.t le28))))) g41 hS) ?_)
                      rintro _ w8 ⟨μ8,rfl,le42,hS⟩
                      refine pu (dt (q90 p5)) ?_
                      refine wy rfl (k90 d0) (s_not (et (k90 d5)) (dt (q90 p6)) ?_)
                      refine wl (s_pickt (et (k90 d0)) (et (k90 d6)) (dt (q90 p7)) ?_)
                      refine wl (s_assign (et (k90 d7)) (dt (q70 p3)) ?_)
                      refine wnil ?_
                      refine xl ?_
                      exact ⟨_,_,rfl,(aK50 (aK20 (aK3 (aI (aO20 (aO4 aZ)))))),_,(!r40),rfl,h,le42,hS⟩
                    · replace h:=iF h39 h
                      refine wn rfl (k90 d0) rfl (dt (q90 p1)) ?_
                      refine wn rfl (k90 d0) rfl (dt (q90 p2)) ?_
                      refine wn rfl (k90 d0) rfl (dt (q90 p3)) ?_
                      refine wn rfl (k90 d0) rfl (dt (q90 p4)) ?_
                      refine wn rfl (k90 d0) rfl (dt (q90 p5)) ?_
                      refine wn rfl (k90 d0) rfl (dt (q90 p6)) ?_
                      refine wl (s_pickf (et (k90 d0)) ec (dt (q90 p7)) ?_)
                      refine wl (s_assign (et (k90 d7)) (dt (q70 p3)) ?_)
                      refine wnil ?_
                      refine xl ?_
                      exact ⟨_,_,rfl,(aK50 (aK20 (aK3 (aI (aO20 (aO4 aZ)))))),_,false,rfl,h,Le.r,hS⟩
              · rintro _ t w9 ⟨μ9,b30,rfl,h,le43,hS⟩
                unfold syn_expr_j4 at h
                refine nrm (mK50 (mK20 (mK3 (mi (mO20 (mO4 mz)))))) ?_
                refine xn ?_
                refine cifb (et (k70 d3)) (fun h44=>?_) (fun h44=>?_)
                · replace h:=iT h44 h
                  refine cseq ?_
                  refine creg ?_
                  refine wl (s_assign ec (dt p6) ?_)
                  refine wnil ?_
                  refine xn ?_
                  refine cret ?_
                  refine (fun h=>br (xr h)) ?_
                  obtain rfl:=oI h
                  refine ret1 rfl d6 ?_
                  exact ⟨_,rfl,(le11.t (le15.t (le19.t (le23.t (le28.t le43))))),hS⟩
                · replace h:=iF h44 h
                  refine cseq ?_
                  refine cseq ?_
                  refine ccutE (rg 99 11) (by decide) (fun m w=>∃ (μx:M) (b45:Bool),m=(yK50 (yK20 (yK20 (yK8 (.i (.bool b45)::(yO10 99 (yO1 109 [])))))))∧syn_expr_j5 self p_2 p_3 r9 r17 b45=some r∧Le μ9 μx∧Sq μx w0 w (.blk b1 76 [.int .i64 r9.2]::rsF)) (by rintro _ _ ⟨_,_,rfl,_⟩; rfl) ?_ ?_
                  · refine creg ?_
                    refine wl (s_move (et d8) (dt (q90 p9)) ?_)
                    refine wl (s_geq (et (k90 d9)) ec (dt (q100 p0)) ?_)
                    refine wl (s_move (et (k100 d0)) (dt (q100 p1)) ?_)
                    refine wspd (k100 d1) (q100 p1) (q100 p1) (fun h46=>?_) (fun h46=>?_)
                    · replace h:=iT h46 h
                      refine wy rfl (k100 d1) (s_move (et d1) (dt (q100 p2)) ?_)
                      refine wy rfl (k100 d1) (s_nilck (et (k100 d2)) (dt (q100 p3)) ?_)
                      refine wy rfl (k100 d1) (s_fa fa39_3 (et (k100 d3)) rfl (dt (q100 p4)) ?_)
                      refine wy rfl (k100 d1) (s_load ti37 (et (k100 d4)) ((m8 _ ((le11.t (le15.t (le19.t (le23.t (le28.t le43))))) _ hS.a)).one d3) (dt (q100 p5)) ?_)
                      refine wy rfl (k100 d1) (s_lensl Tryd.underlying37 (et (k100 d5)) (dt (q100 p6)) ?_)
                      refine wy rfl (k100 d1) (s_move (et d8) (dt (q100 p7)) ?_)
                      refine wy rfl (k100 d1) (s_nei (et (k100 d6)) (et (k100 d7)) (dt (q100 p8)) ?_)
                      refine wl (s_pickt (et (k100 d1)) (et (k100 d8)) (dt (q100 p9)) ?_)
                      refine wl (s_assign (et (k100 d9)) (dt (q90 p8)) ?_)
                      refine wnil ?_
                      refine xl ?_
                      exact ⟨_,_,rfl,(aK50 (aK20 (aK20 (aK8 (aI (aO10 (aO1 aZ))))))),_,(decide ((p_2.Kids.length:Int)≠r17)),rfl,h,Le.r,hS⟩
                    · replace h:=iF h46 h
                      refine wn rfl (k100 d1) rfl (dt (q100 p2)) ?_
                      refine wn rfl (k100 d1) rfl (dt (q100 p3)) ?_
                      refine wn rfl (k100 d1) rfl (dt (q100 p4)) ?_
                      refine wn rfl (k100 d1) rfl (dt (q100 p5)) ?_
                      refine wn rfl (k100 d1) rfl (dt (q100 p6)) ?_
                      refine wn rfl (k100 d1) rfl (dt (q100 p7)) ?_
                      refine wn rfl (k100 d1) rfl (dt (q100 p8)) ?_
                      refine wl (s_pickf (et (k100 d1)) ec (dt (q100 p9)) ?_)
                      refine wl (s_assign (et (k100 d9)) (dt (q90 p8)) ?_)
                      refine wnil ?_
                      refine xl ?_
                      exact ⟨_,_,rfl,(aK50 (aK20 (aK20 (aK8 (aI (aO10 (aO1 aZ))))))),_,false,rfl,h,Le.r,hS⟩
                  · rintro _ t w10 ⟨μ10,b45,rfl,h,le47,hS⟩
                    unfold syn_expr_j5 at h
                    refine nrm (mK50 (mK20 (mK20 (mK8 (mi (mO10 (mO1 mz))))))) ?_
                    refine xn ?_
                    refine ccutE (rg 110 10) (by decide) (fun m w=>∃ (μx:M) (b48:Bool),m=(yK50 (yK20 (yK20 (yK8 (.i (.bool b48)::(yK10 (yK1 (yO10 110 []))))))))∧syn_expr_j6 self p_2 p_3 r9 b48=some r∧Le μ10 μx∧Sq μx w0 w (.blk b1 76 [.int .i64 r9.2]::rsF)) (by rintro _ _ ⟨_,_,rfl,_⟩; rfl) ?_ ?_
                    · refine cifb (et (k90 d8)) (fun h49=>?_) (fun h49=>?_)
                      · replace h:=iT h49 h
                        refine cskip ?_
                        refine xl ?_
                        exact ⟨_,_,rfl,(aK50 (aK20 (aK20 (aK8 (aI (aK10 (aK1 (aO10 aZ)))))))),_,b45,rfl,h,Le.r,hS⟩
                      · replace h:=iF h49 h
                        refine creg ?_
                        refine wl (s_move (et d8) (dt (q100 (q10 p0))) ?_)
                        refine wl (s_lss (et (k100 (k10 d0))) ec (dt (q100 (q10 p1))) ?_)
                        refine wl (s_move (et (k100 (k10 d1))) (dt (q100 (q10 p2))) ?_)
                        refine wspd (k100 (k10 d2)) (q100 (q10 p2)) (q100 (q10 p2)) (fun h50=>?_) (fun h50=>?_)
                        · replace h:=iT h50 h
                          refine wy rfl (k100 (k10 d2)) (s_move (et d1) (dt (q100 (q10 p3))) ?_)
                          refine wy rfl (k100 (k10 d2)) (s_nilck (et (k100 (k10 d3))) (dt (q100 (q10 p4))) ?_)
                          refine wy rfl (k100 (k10 d2)) (s_fa fa39_3 (et (k100 (k10 d4))) rfl (dt (q100 (q10 p5))) ?_)
                          refine wy rfl (k100 (k10 d2)) (s_load ti37 (et (k100 (k10 d5))) ((m8 _ ((le11.t (le15.t (le19.t (le23.t (le28.t (le43.t le47)))))) _ hS.a)).one d3) (dt (q100 (q10 p6))) ?_)
                          refine wy rfl (k100 (k10 d2)) (s_lensl Tryd.underlying37 (et (k100 (k10 d6))) (dt (q100 (q10 p7))) ?_)
                          refine wy rfl (k100 (k10 d2)) (s_gtr (et (k100 (k10 d7))) ec (dt (q100 (q10 p8))) ?_)
                          refine wl (s_pickt (et (k100 (k10 d2))) (et (k100 (k10 d8))) (dt (q100 (q10 p9))) ?_)
                          refine wl (s_assign (et (k100 (k10 d9))) (dt (q90 p8)) ?_)
                          refine wnil ?_
                          refine xl ?_
                          exact ⟨_,_,rfl,(aK50 (aK20 (aK20 (aK8 (aI (aK10 (aK1 (aO10 aZ)))))))),_,(decide ((6:Int)<(p_2.Kids.length:Int))),rfl,h,Le.r,hS⟩
                        · replace h:=iF h50 h
                          refine wn rfl (k100 (k10 d2)) rfl (dt (q100 (q10 p3))) ?_
                          refine wn rfl (k100 (k10 d2)) rfl (dt (q100 (q10 p4))) ?_
                          refine wn rfl (k100 (k10 d2)) rfl (dt (q100 (q10 p5))) ?_
                          refine wn rfl (k100 (k10 d2)) rfl (dt (q100 (q10 p6))) ?_
                          refine wn rfl (k100 (k10 d2)) rfl (dt (q100 (q10 p7))) ?_
                          refine wn rfl (k100 (k10 d2)) rfl (dt (q100 (q10 p8))) ?_
                          refine wl (s_pickf (et (k100 (k10 d2))) ec (dt (q100 (q10 p9))) ?_)
                          refine wl (s_assign (et (k100 (k10 d9))) (dt (q90 p8)) ?_)
                          refine wnil ?_
                          refine xl ?_
                          exact ⟨_,_,rfl,(aK50 (aK20 (aK20 (aK8 (aI (aK10 (aK1 (aO10 aZ)))))))),_,false,rfl,h,Le.r,hS⟩
                    · rintro _ t w11 ⟨μ11,b48,rfl,h,le51,hS⟩
                      unfold syn_expr_j6 at h
                      refine nrm (mK50 (mK20 (mK20 (mK8 (mi (mK10 (mK1 (mO10 mz)))))))) ?_
                      refine xn ?_
                      refine cifb (et (k90 d8)) (fun h52=>?_) (fun h52=>?_)
                      · replace h:=iT h52 h
                        refine cseq ?_
                        refine creg ?_
                        refine wl (s_assign ec (dt p6) ?_)
                        refine wnil ?_
                        refine xn ?_
                        refine cret ?_
                        refine (fun h=>br (xr h)) ?_
                        obtain rfl:=oI h
                        refine ret1 rfl d6 ?_
                        exact ⟨_,rfl,(le11.t (le15.t (le19.t (le23.t (le28.t (le43.t (le47.t le51))))))),hS⟩
                      · replace h:=iF h52 h
                        refine cskip ?_
                        refine (fun h=>bn (xn h)) ?_
                        refine cseq ?_
                        refine cseq ?_
                        refine creg ?_
                        refine wl (s_move (et d1) (dt (q100 (q20 p0))) ?_)
                        refine wl (s_nilck (et (k100 (k20 d0))) (dt (q100 (q20 p1))) ?_)
                        refine wl (s_fa fa39_3 (et (k100 (k20 d1))) rfl (dt (q100 (q20 p2))) ?_)
                        refine wl (s_load ti37 (et (k100 (k20 d2))) ((m8 _ ((le11.t (le15.t (le19.t (le23.t (le28.t (le43.t (le47.t le51))))))) _ hS.a)).one d3) (dt (q100 (q20 p3))) ?_)
                        refine wl (s_lensl Tryd.underlying37 (et (k100 (k20 d3))) (dt (q100 (q20 p4))) ?_)
                        refine wl (s_move ec (dt (q100 (q20 p5))) ?_)
                        refine wnil ?_
                        refine xn ?_
                        refine cblock ?_
                        refine cloopE ([6]++rg 9 2++rg 126 16) (by decide) (fun n m w=>∃ (μx:M) (i72:Int) (i73:Int),m=(yK6 (yO1 6 (yK2 (yO2 9 (yK50 (yK50 (yK10 (yK4 (.i (.int .i64 i72)::(yO10 126 (yO6 136 [])))))))))))∧syn_expr_l1 self p_2 p_3 n i72 i73=some r∧Le μ11 μx∧Sq μx w0 w (.blk b1 76 [.int .i64 i73]::rsF)) (by rintro _ _ _ ⟨_,_,_,rfl,_⟩; rfl) _ _ (aK6 (aO1 (aK2 (aO2 (aK50 (aK50 (aK10 (aK4 (aI (aO10 (aO6 aZ))))))))))) ⟨_,0,r9.2,rfl,h,Le.r,hS⟩ ?_
                        rintro n_1 _ t w12 ⟨μ12,i72,i73,rfl,h,le92,hS⟩
                        cases n_1 with
                        | zero=>cases h
                        | succ n_1 =>
                        unfold syn_expr_l1 at h
                        refine cnrm (mK6 (mO1 (mK2 (mO2 (mK50 (mK50 (mK10 (mK4 (mi (mO10 (mO6 mz))))))))))) ?_
                        refine cseq ?_
                        refine creg ?_
                        refine wl (s_lss (et (k100 (k20 d5))) (et (k100 (k20 d4))) (dt (q100 (q20 p6))) ?_)
                        refine wnil ?_
                        refine xn ?_
                        refine cseq ?_
                        refine cifd (et (k100 (k20 d6))) (fun h93=>?_) (fun h93=>?_)
                        · replace h:=iT h93 h
                          refine cskip ?_
                          refine xn ?_
                          refine cseq ?_
                          refine cblock ?_
                          refine cseq ?_
                          refine creg ?_
                          refine wl (s_move (et (k100 (k20 d5))) (dt (q100 (q20 p7))) ?_)
                          refine wl (s_assign (et (k100 (k20 d7))) (dt p9) ?_)
                          refine wnil ?_
                          refine xn ?_
                          refine cseq ?_
                          refine creg ?_
                          refine wl (s_move (et d0) (dt (q100 (q20 p8))) ?_)
                          refine wl (s_move (et d1) (dt (q100 (q20 p9))) ?_)
                          refine wl (s_nilck (et (k100 (k20 d9))) (dt (q100 (q30 p0))) ?_)
                          refine wl (s_fa fa39_3 (et (k100 (k30 d0))) rfl (dt (q100 (q30 p1))) ?_)
                          refine wl (s_load ti37 (et (k100 (k30 d1))) ((m8 _ ((le11.t (le15.t (le19.t (le23.t (le28.t (le43.t (le47.t (le51.t le92)))))))) _ hS.a)).one d3) (dt (q100 (q30 p2))) ?_)
                          refine wl (s_move (et d9) (dt (q100 (q30 p3))) ?_)
                          replace h:=bI h; obtain ⟨x94,g95,h⟩:=h
                          obtain ⟨b96,o97,cs98,e99,f100,m101⟩:=SlR.elem (m7.up (le11.t (le15.t (le19.t (le23.t (le28.t (le43.t (le47.t (le51.t le92))))))))) g95
                          obtain ⟨a102,c103,rfl,m104⟩:=TExpr.o m101
                          refine wl (s_iax Tryd.underlying37 ti39 (et (k100 (k30 d2))) (et (k100 (k30 d3))) e99 (dt (q100 (q30 p4))) ?_)
                          refine wl (s_move (et d2) (dt (q100 (q30 p5))) ?_)
                          replace h:=bI h; obtain ⟨i105,g106,h⟩:=h
                          refine wl (s_addc (et (k100 (k30 d5))) ec g106 (dt (q100 (q30 p6))) ?_)
                          replace h:=bI h; obtain ⟨r107,g108,h⟩:=h
                          refine wl (s_callv isfn59 ef (e1 (et (k100 (k20 d8))) (e1 (et (k100 (k30 d4))) (e1 (et (k100 (k30 d6))) e0))) (IH.syn_expr (hg.t (le11.t (le15.t (le19.t (le23.t (le28.t (le43.t (le47.t (le51.t le92))))))))) m104 f100 g108 hS) ?_)
                          rintro _ w13 ⟨μ13,rfl,le109,hS⟩
                          refine pu (dt (q100 (q30 p7))) ?_
                          refine wl (s_assign (et (k100 (k30 d7))) (dt (q10 p0)) ?_)
                          refine wnil ?_
                          refine xn ?_
                          refine cseq ?_
                          refine creg ?_
                          refine wl (s_move (et (k10 d0)) (dt (q100 (q30 p8))) ?_)
                          refine wl (s_nei (et (k100 (k30 d8))) ec (dt (q100 (q30 p9))) ?_)
                          refine wnil ?_
                          refine xn ?_
                          refine cifd (et (k100 (k30 d9))) (fun h110=>?_) (fun h110=>?_)
                          · replace h:=iT h110 h
                            refine cseq ?_
                            refine creg ?_
                            refine wl (s_move (et (k10 d0)) (dt (q100 (q40 p0))) ?_)
                            refine wl (s_assign (et (k100 (k40 d0))) (dt p6) ?_)
                            refine wnil ?_
                            refine xn ?_
                            refine cret ?_
                            refine (fun h=>br (xr (xr (br (xr h))))) ?_
                            obtain rfl:=oI h
                            refine ret1 rfl d6 ?_
                            exact ⟨_,rfl,(le11.t (le15.t (le19.t (le23.t (le28.t (le43.t (le47.t (le51.t (le92.t le109))))))))),hS⟩
                          · replace h:=iF h110 h
                            refine cskip ?_
                            refine (fun h=>bn (xn h)) ?_
                            refine creg ?_
                            replace h:=bI h; obtain ⟨i111,g112,h⟩:=h
                            refine wl (s_addc (et (k100 (k20 d5))) ec g112 (dt (q100 (q40 p1))) ?_)
                            refine wl (s_move (et (k100 (k40 d1))) (dt (q100 (q20 p5))) ?_)
                            refine wnil ?_
                            refine xl ?_
                            exact ⟨n_1,_,_,rfl,(aK6 (aO1 (aK2 (aO2 (aK50 (aK50 (aK10 (aK4 (aI (aO10 (aO6 aZ))))))))))),⟨_,i111,r107.2,rfl,h,(le92.t le109),hS⟩,Nat.lt_succ_self _⟩
                        · replace h:=iF h93 h
                          refine cexit ?_
                          refine (fun h=>xe (xe (bh h))) ?_
                          refine xn ?_
                          refine cseq ?_
                          refine creg ?_
                          refine wl (s_assign ec (dt p6) ?_)
                          refine wnil ?_
                          refine xn ?_
                          refine cret ?_
                          obtain rfl:=oI h
                          refine ret1 rfl d6 ?_
                          exact ⟨_,rfl,(le11.t (le15.t (le19.t (le23.t (le28.t (le43.t (le47.t (le51.t le92)))))))),hS⟩
theorem SynExpr_sound:∀ n,SynExprSound (SynExpr_run n)
  | 0=>⟨(by intros; rename_i h _; cases h)⟩
  | n+1=>⟨syn_expr_w (SynExpr_sound n)⟩
structure SynStatSound (sf:SynStat):Prop where
  syn_stats:∀ {μ0:M} {w0 w:World} {rsF:List Res} (hg:Le Gm μ0) {b1:Nat} {node_2:Int} {p_2:List TStat} {a3:Option Addr} {c4:Nat} {p_3:Int} {r:Int×Int} (m5:Sl μ0 a3 c4 p_2) (h:sf.syn_stats node_2 p_2 p_3=some r) (hS:Sq μ0 w0 w (.blk b1 76 [.int .i64 node_2]::rsF)),CallsV Tryd.prog 40 [.pointer (some ⟨b1,0,none⟩),.slice a3 p_2.length c4,.int .i64 p_3] w (fun v w'=>∃ (μ':M) ,v=.int .i64 r.1∧Le μ0 μ'∧Sq μ' w0 w' (.blk b1 76 [.int .i64 r.2]::rsF))
  syn_stat:∀ {μ0:M} {w0 w:World} {rsF:List Res} (hg:Le Gm μ0) {b1:Nat} {node_2:Int} {p_2:TStat} {b3:Nat} {o4:Nat} {a5:Option Addr} {c6:Nat} {a8:Option Addr} {c9:Nat} {a11:Option Addr} {c12:Nat} {p_3:Int} {r:Int×Int} (m7:Sl μ0 a5 c6 p_2.X.Kids) (m10:Sl μ0 a8 c9 p_2.Body) (m13:Sl μ0 a11 c12 p_2.Else) (m14:At μ0 b3 o4 [.int .i64 p_2.Kind,S p_2.Name,.int .i64 p_2.X.Kind,.int .i64 p_2.X.N,S p_2.X.Name,.slice a5 p_2.X.Kids.length c6,.slice a8 p_2.Body.length c9,.slice a11 p_2.Else.length c12]) (h:sf.syn_stat node_2 p_2 p_3=some r) (hS:Sq μ0 w0 w (.blk b1 76 [.int .i64 node_2]::rsF)),CallsV Tryd.prog 51 [.pointer (some ⟨b1,0,none⟩),.pointer (some ⟨b3,o4,none⟩),.int .i64 p_3] w (fun v w'=>∃ (μ':M) ,v=.int .i64 r.1∧Le μ0 μ'∧Sq μ' w0 w' (.blk b1 76 [.int .i64 r.2]::rsF))
theorem syn_stats_w {self:SynStat} (IH:SynStatSound self) {μ0:M} {w0 w:World} {rsF:List Res} (hg:Le Gm μ0) {b1:Nat} {node_2:Int} {p_2:List TStat} {a3:Option Addr} {c4:Nat} {p_3:Int} {r:Int×Int} (m5:Sl μ0 a3 c4 p_2) (h:syn_stats self node_2 p_2 p_3=some r) (hS:Sq μ0 w0 w (.blk b1 76 [.int .i64 node_2]::rsF)):CallsV Tryd.prog 40 [.pointer (some ⟨b1,0,none⟩),.slice a3 p_2.length c4,.int .i64 p_3] w (fun v w'=>∃ (μ':M) ,v=.int .i64 r.1∧Le μ0 μ'∧Sq μ' w0 w' (.blk b1 76 [.int .i64 r.2]::rsF)):=by
  unfold syn_stats at h
  refine enter Tryd.func40 rfl (frm:=[_,_,_,_,_,_,_,_,_,_,_,_,_,_,_,_,_,_,_,_,_,_,_,_,_,_,_]) rfl ?_
  refine cseq ?_
  refine creg ?_
  refine wl (s_assign ec (dt p6) ?_)
  refine wnil ?_
  refine xn ?_
  refine cseq ?_
  refine cseq ?_
  refine creg ?_
  refine wl (s_move (et d1) (dt p9) ?_)
  refine wl (s_lensl Tryd.underlying34 (et d9) (dt (q10 p0)) ?_)
  refine wl (s_gtr (et (k10 d0)) ec (dt (q10 p1)) ?_)
  refine wnil ?_
  refine xn ?_
  refine cifd (et (k10 d1)) (fun h6=>?_) (fun h6=>?_)
  · replace h:=iT h6 h
    refine cseq ?_
    refine creg ?_
    refine wl (s_assign ec (dt p6) ?_)
    refine wnil ?_
    refine xn ?_
    refine cret ?_
    refine xr ?_
    obtain rfl:=oI h
    refine ret1 rfl d6 ?_
    exact ⟨_,rfl,Le.r,hS⟩
  · replace h:=iF h6 h
    refine cskip ?_
    refine xn ?_
    refine cseq ?_
    refine cseq ?_
    refine creg ?_
    refine wl (s_move (et d1) (dt (q10 p2)) ?_)
    refine wl (s_lensl Tryd.underlying34 (et (k10 d2)) (dt (q10 p3)) ?_)
    refine wl (s_move ec (dt (q10 p4)) ?_)
    refine wnil ?_
    refine xn ?_
    refine cblock ?_
    refine cloopE (rg 6 3++rg 15 12) (by decide) (fun n m w=>∃ (μx:M) (i29:Int) (i30:Int),m=(yK6 (yO3 6 (yK5 (.i (.int .i64 i29)::(yO10 15 (yO2 25 []))))))∧syn_stats_l1 self p_2 p_3 n i29 i30=some r∧Le μ0 μx∧Sq μx w0 w (.blk b1 76 [.int .i64 i30]::rsF)) (by rintro _ _ _ ⟨_,_,_,rfl,_⟩; rfl) _ _ (aK6 (aO3 (aK5 (aI (aO10 (aO2 aZ)))))) ⟨_,0,node_2,rfl,h,Le.r,hS⟩ ?_
    rintro n_1 _ t w1 ⟨μ1,i29,i30,rfl,h,le53,hS⟩
    cases n_1 with
    | zero=>cases h
    | succ n_1 =>
    unfold syn_stats_l1 at h
    refine cnrm (mK6 (mO3 (mK5 (mi (mO10 (mO2 mz)))))) ?_
    refine cseq ?_
    refine creg ?_
    refine wl (s_lss (et (k10 d4)) (et (k10 d3)) (dt (q10 p5)) ?_)
    refine wnil ?_
    refine xn ?_
    refine cseq ?_
    refine cifd (et (k10 d5)) (fun h54=>?_) (fun h54=>?_)
    · replace h:=iT h54 h
      refine cskip ?_
      refine xn ?_
      refine cseq ?_
      refine cblock ?_
      refine cseq ?_
      refine creg ?_
      refine wl (s_move (et (k10 d4)) (dt (q10 p6)) ?_)
      refine wl (s_assign (et (k10 d6)) (dt p7) ?_)
      refine wnil ?_
      refine xn ?_
      refine cseq ?_
      refine creg ?_
      refine wl (s_move (et d0) (dt (q10 p7)) ?_)
      refine wl (s_move (et d1) (dt (q10 p8)) ?_)
      refine wl (s_move (et d7) (dt (q10 p9)) ?_)
      replace h:=bI h; obtain ⟨x55,g56,h⟩:=h
      obtain ⟨b57,o58,cs59,e60,f61,m62⟩:=SlR.elem (m5.up le53) g56
      obtain ⟨a63,c64,a66,c67,a69,c70,rfl,m65,m68,m71⟩:=TStat.o m62
      refine wl (s_iax Tryd.underlying34 ti41 (et (k10 d8)) (et (k10 d9)) e60 (dt (q20 p0)) ?_)
      refine wl (s_move (et d2) (dt (q20 p1)) ?_)
      replace h:=bI h; obtain ⟨r72,g73,h⟩:=h
      refine wl (s_callv isfn51 ef (e1 (et (k10 d7)) (e1 (et (k20 d0)) (e1 (et (k20 d1)) e0))) (IH.syn_stat (hg.t le53) m65 m68 m71 f61 g73 hS) ?_)
      rintro _ w2 ⟨μ2,rfl,le74,hS⟩
      refine pu (dt (q20 p2)) ?_
      refine wl (s_assign (et (k20 d2)) (dt p8) ?_)
      refine wnil ?_
      refine xn ?_
      refine cseq ?_
      refine creg ?_
      refine wl (s_move (et d8) (dt (q20 p3)) ?_)
      refine wl (s_nei (et (k20 d3)) ec (dt (q20 p4)) ?_)
      refine wnil ?_
      refine xn ?_
      refine cifd (et (k20 d4)) (fun h75=>?_) (fun h75=>?_)
      · replace h:=iT h75 h
        refine cseq ?_
        refine creg ?_
        refine wl (s_move (et d8) (dt (q20 p5)) ?_)
        refine wl (s_assign (et (k20 d5)) (dt p6) ?_)
        refine wnil ?_
        refine xn ?_
        refine cret ?_
        refine (fun h=>br (xr (xr (br (xr h))))) ?_
        obtain rfl:=oI h
        refine ret1 rfl d6 ?_
        exact ⟨_,rfl,(le53.t le74),hS⟩
      · replace h:=iF h75 h
        refine cskip ?_
        refine (fun h=>bn (xn h)) ?_
        refine creg ?_
        replace h:=bI h; obtain ⟨i76,g77,h⟩:=h
        refine wl (s_addc (et (k10 d4)) ec g77 (dt (q20 p6)) ?_)
        refine wl (s_move (et (k20 d6)) (dt (q10 p4)) ?_)
        refine wnil ?_
        refine xl ?_
        exact ⟨n_1,_,_,rfl,(aK6 (aO3 (aK5 (aI (aO10 (aO2 aZ)))))),⟨_,i76,r72.2,rfl,h,(le53.t le74),hS⟩,Nat.lt_succ_self _⟩
    · replace h:=iF h54 h
      refine cexit ?_
      refine (fun h=>xe (xe (bh h))) ?_
      refine xn ?_
      refine cseq ?_
      refine creg ?_
      refine wl (s_assign ec (dt p6) ?_)
      refine wnil ?_
      refine xn ?_
      refine cret ?_
      obtain rfl:=oI h
      refine ret1 rfl d6 ?_
      exact ⟨_,rfl,le53,hS⟩
theorem syn_stat_w {self:SynStat} (IH:SynStatSound self) {fu:Nat} {μ0:M} {w0 w:World} {rsF:List Res} (hg:Le Gm μ0) {b1:Nat} {node_2:Int} {p_2:TStat} {b3:Nat} {o4:Nat} {a5:Option Addr} {c6:Nat} {a8:Option Addr} {c9:Nat} {a11:Option Addr} {c12:Nat} {p_3:Int} {r:Int×Int} (m7:Sl μ0 a5 c6 p_2.X.Kids) (m10:Sl μ0 a8 c9 p_2.Body) (m13:Sl μ0 a11 c12 p_2.Else) (m14:At μ0 b3 o4 [.int .i64 p_2.Kind,S p_2.Name,.int .i64 p_2.X.Kind,.int .i64 p_2.X.N,S p_2.X.Name,.slice a5 p_2.X.Kids.length c6,.slice a8 p_2.Body.length c9,.slice a11 p_2.Else.length c12]) (h:syn_stat fu self node_2 p_2 p_3=some r) (hS:Sq μ0 w0 w (.blk b1 76 [.int .i64 node_2]::rsF)):CallsV Tryd.prog 51 [.pointer (some ⟨b1,0,none⟩),.pointer (some ⟨b3,o4,none⟩),.int .i64 p_3] w (fun v w'=>∃ (μ':M) ,v=.int .i64 r.1∧Le μ0 μ'∧Sq μ' w0 w' (.blk b1 76 [.int .i64 r.2]::rsF)):=by
  unfold syn_stat at h
  refine enter Tryd.func51 rfl (frm:=[_,_,_,_,_,_,_,_,_,_,_,_,_,_,_,_,_,_,_,_,_,_,_,_,_,_,_,_,_,_,_,_,_,_,_,_,_,_,_,_,_,_,_,_,_,_,_,_,_,_,_,_,_,_,_,_,_,_,_,_,_,_,_,_,_,_,_,_,_,_,_,_,_,_,_,_,_,_,_,_,_,_,_,_,_,_,_,_,_,_,_,_,_,_,_,_,_,_,_,_,_,_,_,_,_,_,_,_,_]) rfl ?_
  refine cseq ?_
  refine creg ?_
  refine wl (s_assign ec (dt p6) ?_)
  refine wnil ?_
  refine xn ?_
  refine cseq ?_
  refine cseq ?_
  refine creg ?_
  refine wl (s_move (et d0) (dt (q10 p0)) ?_)
  refine wl (s_move (et d2) (dt (q10 p1)) ?_)
  replace h:=bI h; obtain ⟨r15,g16,h⟩:=h
  refine wl (s_callv isfn38 ef (e1 (et (k10 d0)) (e1 (et (k10 d1)) e0)) (syn_node_w hg g16 hS) ?_)
  rintro _ w1 ⟨μ1,rfl,le17,hS⟩
  refine pu (dt (q10 p2)) ?_
  refine wl (s_assign (et (k10 d2)) (dt p7) ?_)
  refine wnil ?_
  refine xn ?_
  refine cseq ?_
  refine creg ?_
  refine wl (s_move (et d7) (dt (q10 p3)) ?_)
  refine wl (s_nei (et (k10 d3)) ec (dt (q10 p4)) ?_)
  refine wnil ?_
  refine xn ?_
  refine cifd (et (k10 d4)) (fun h18=>?_) (fun h18=>?_)
  · replace h:=iT h18 h
    refine cseq ?_
    refine creg ?_
    refine wl (s_move (et d7) (dt (q10 p5)) ?_)
    refine wl (s_assign (et (k10 d5)) (dt p6) ?_)
    refine wnil ?_
    refine xn ?_
    refine cret ?_
    refine xr ?_
    obtain rfl:=oI h
    refine ret1 rfl d6 ?_
    exact ⟨_,rfl,le17,hS⟩
  · replace h:=iF h18 h
    refine cskip ?_
    refine xn ?_
    refine cseq ?_
    refine cblock ?_
    refine cseq ?_
    refine ccutE (rg 17 12) (by decide) (fun m w=>∃ (μx:M) (b19:Bool),m=(yK10 (yK6 (.i (.bool b19)::(yO10 17 (yO2 27 [])))))∧syn_stat_j1 fu self p_2 p_3 r15 b19=some r∧Le μ1 μx∧Sq μx w0 w (.blk b1 76 [.int .i64 r15.2]::rsF)) (by rintro _ _ ⟨_,_,rfl,_⟩; rfl) ?_ ?_
    · refine creg ?_
      refine wl (s_move (et d1) (dt (q10 p7)) ?_)
      refine wl (s_nilck (et (k10 d7)) (dt (q10 p8)) ?_)
      refine wl (s_fa fa41_0 (et (k10 d8)) rfl (dt (q10 p9)) ?_)
      refine wl (s_load ti3 (et (k10 d9)) ((m14 _ (le17 _ hS.a)).one d0) (dt (q20 p0)) ?_)
      refine wl (s_lss (et (k20 d0)) ec (dt (q20 p1)) ?_)
      refine wl (s_move (et (k20 d1)) (dt (q20 p2)) ?_)
      refine wspd (k20 d2) (q20 p2) (q20 p2) (fun h20=>?_) (fun h20=>?_)
      · replace h:=iT h20 h
        refine wn rfl (k20 d2) rfl (dt (q20 p3)) ?_
        refine wn rfl (k20 d2) rfl (dt (q20 p4)) ?_
        refine wn rfl (k20 d2) rfl (dt (q20 p5)) ?_
        refine wn rfl (k20 d2) rfl (dt (q20 p6)) ?_
        refine wn rfl (k20 d2) rfl (dt (q20 p7)) ?_
        refine wl (s_pickt (et (k20 d2)) ec (dt (q20 p8)) ?_)
        refine wl (s_assign (et (k20 d8)) (dt (q10 p6)) ?_)
        refine wnil ?_
        refine xl ?_
        exact ⟨_,_,rfl,(aK10 (aK6 (aI (aO10 (aO2 aZ))))),_,true,rfl,h,Le.r,hS⟩
      · replace h:=iF h20 h
        refine wy rfl (k20 d2) (s_move (et d1) (dt (q20 p3)) ?_)
        refine wy rfl (k20 d2) (s_nilck (et (k20 d3)) (dt (q20 p4)) ?_)
        refine wy rfl (k20 d2) (s_fa fa41_0 (et (k20 d4)) rfl (dt (q20 p5)) ?_)
        refine wy rfl (k20 d2) (s_load ti3 (et (k20 d5)) ((m14 _ (le17 _ hS.a)).one d0) (dt (q20 p6)) ?_)
        refine wy rfl (k20 d2) (s_gtr (et (k20 d6)) ec (dt (q20 p7)) ?_)
        refine wl (s_pickf (et (k20 d2)) (et (k20 d7)) (dt (q20 p8)) ?_)
        refine wl (s_assign (et (k20 d8)) (dt (q10 p6)) ?_)
        refine wnil ?_
        refine xl ?_
        exact ⟨_,_,rfl,(aK10 (aK6 (aI (aO10 (aO2 aZ))))),_,(decide ((9:Int)<p_2.Kind)),rfl,h,Le.r,hS⟩
    · rintro _ t w2 ⟨μ2,b19,rfl,h,le21,hS⟩
      unfold syn_stat_j1 at h
      refine nrm (mK10 (mK6 (mi (mO10 (mO2 mz))))) ?_
      refine xn ?_
      refine cifb (et (k10 d6)) (fun h22=>?_) (fun h22=>?_)
      · replace h:=iT h22 h
        refine cseq ?_
        refine creg ?_
        refine wl (s_assign ec (dt p6) ?_)
        refine wnil ?_
        refine xn ?_
        refine cret ?_
        refine (fun h=>br (xr h)) ?_
        obtain rfl:=oI h
        refine ret1 rfl d6 ?_
        exact ⟨_,rfl,(le17.t le21),hS⟩
      · replace h:=iF h22 h
        refine cseq ?_
        refine ccutE (rg 30 27) (by decide +kernel) (fun m w=>∃ (μx:M) (b23:Bool),m=(yK20 (yK9 (.i (.bool b23)::(yO20 30 (yO7 50 [])))))∧syn_stat_j2 fu self p_2 p_3 r15 b23=some r∧Le μ2 μx∧Sq μx w0 w (.blk b1 76 [.int .i64 r15.2]::rsF)) (by rintro _ _ ⟨_,_,rfl,_⟩; rfl) ?_ ?_
        · refine creg ?_
          refine wl (s_move (et d1) (dt (q30 p0)) ?_)
          refine wl (s_nilck (et (k30 d0)) (dt (q30 p1)) ?_)
          refine wl (s_fa fa41_0 (et (k30 d1)) rfl (dt (q30 p2)) ?_)
          refine wl (s_load ti3 (et (k30 d2)) ((m14 _ ((le17.t le21) _ hS.a)).one d0) (dt (q30 p3)) ?_)
          refine wl (s_eqi (et (k30 d3)) ec (dt (q30 p4)) ?_)
          refine wl (s_move (et (k30 d4)) (dt (q30 p5)) ?_)
          refine wspd (k30 d5) (q30 p5) (q30 p5) (fun h24=>?_) (fun h24=>?_)
          · replace h:=iT h24 h
            refine wn rfl (k30 d5) rfl (dt (q30 p6)) ?_
            refine wn rfl (k30 d5) rfl (dt (q30 p7)) ?_
            refine wn rfl (k30 d5) rfl (dt (q30 p8)) ?_
            refine wn rfl (k30 d5) rfl (dt (q30 p9)) ?_
            refine wn rfl (k30 d5) rfl (dt (q40 p0)) ?_
            refine wl (s_pickt (et (k30 d5)) ec (dt (q40 p1)) ?_)
            refine wl (s_move (et (k40 d1)) (dt (q40 p2)) ?_)
            refine wn rfl (k40 d2) rfl (dt (q40 p3)) ?_
            refine wn rfl (k40 d2) rfl (dt (q40 p4)) ?_
            refine wn rfl (k40 d2) rfl (dt (q40 p5)) ?_
            refine wn rfl (k40 d2) rfl (dt (q40 p6)) ?_
            refine wn rfl (k40 d2) rfl (dt (q40 p7)) ?_
            refine wl (s_pickt (et (k40 d2)) ec (dt (q40 p8)) ?_)
            refine wl (s_move (et (k40 d8)) (dt (q40 p9)) ?_)
            refine wy rfl (k40 d9) (s_move (et d1) (dt (q50 p0)) ?_)
            refine wy rfl (k40 d9) (s_nilck (et (k50 d0)) (dt (q50 p1)) ?_)
            refine wy rfl (k40 d9) (s_fa fa41_1 (et (k50 d1)) rfl (dt (q50 p2)) ?_)
            refine wy rfl (k40 d9) (s_load ti9 (et (k50 d2)) ((m14 _ ((le17.t le21) _ hS.a)).one d1) (dt (q50 p3)) ?_)
            replace h:=bI h; obtain ⟨r25,g26,h⟩:=h
            refine wy rfl (k40 d9) (s_callv isfn35 ef (e1 (et (k50 d3)) e0) (lex_named_w (hg.t (le17.t le21)) g26 hS) ?_)
            rintro _ w3 ⟨μ3,rfl,le27,hS⟩
            refine pu (dt (q50 p4)) ?_
            refine wy rfl (k40 d9) (s_not (et (k50 d4)) (dt (q50 p5)) ?_)
            refine wl (s_pickt (et (k40 d9)) (et (k50 d5)) (dt (q50 p6)) ?_)
            refine wl (s_assign (et (k50 d6)) (dt (q20 p9)) ?_)
            refine wnil ?_
            refine xl ?_
            exact ⟨_,_,rfl,(aK20 (aK9 (aI (aO20 (aO7 aZ))))),_,(!r25),rfl,h,le27,hS⟩
          · replace h:=iF h24 h
            refine wy rfl (k30 d5) (s_move (et d1) (dt (q30 p6)) ?_)
            refine wy rfl (k30 d5) (s_nilck (et (k30 d6)) (dt (q30 p7)) ?_)
            refine wy rfl (k30 d5) (s_fa fa41_0 (et (k30 d7)) rfl (dt (q30 p8)) ?_)
            refine wy rfl (k30 d5) (s_load ti3 (et (k30 d8)) ((m14 _ ((le17.t le21) _ hS.a)).one d0) (dt (q30 p9)) ?_)
            refine wy rfl (k30 d5) (s_eqi (et (k30 d9)) ec (dt (q40 p0)) ?_)
            refine wl (s_pickf (et (k30 d5)) (et (k40 d0)) (dt (q40 p1)) ?_)
            refine wl (s_move (et (k40 d1)) (dt (q40 p2)) ?_)
            refine wspd (k40 d2) (q40 p2) (q40 p2) (fun h28=>?_) (fun h28=>?_)
            · replace h:=iT h28 h
              refine wn rfl (k40 d2) rfl (dt (q40 p3)) ?_
              refine wn rfl (k40 d2) rfl (dt (q40 p4)) ?_
              refine wn rfl (k40 d2) rfl (dt (q40 p5)) ?_
              refine wn rfl (k40 d2) rfl (dt (q40 p6)) ?_
              refine wn rfl (k40 d2) rfl (dt (q40 p7)) ?_
              refine wl (s_pickt (et (k40 d2)) ec (dt (q40 p8)) ?_)
              refine wl (s_move (et (k40 d8)) (dt (q40 p9)) ?_)
              refine wy rfl (k40 d9) (s_move (et d1) (dt (q50 p0)) ?_)
              refine wy rfl (k40 d9) (s_nilck (et (k50 d0)) (dt (q50 p1)) ?_)
              refine wy rfl (k40 d9) (s_fa fa41_1 (et (k50 d1)) rfl (dt (q50 p2)) ?_)
              refine wy rfl (k40 d9) (s_load ti9 (et (k50 d2)) ((m14 _ ((le17.t le21) _ hS.a)).one d1) (dt (q50 p3)) ?_)
              replace h:=bI h; obtain ⟨r29,g30,h⟩:=h
              refine wy rfl (k40 d9) (s_callv isfn35 ef (e1 (et (k50 d3)) e0) (lex_named_w (hg.t (le17.t le21)) g30 hS) ?_)
              rintro _ w4 ⟨μ4,rfl,le31,hS⟩
              refine pu (dt (q50 p4)) ?_
              refine wy rfl (k40 d9) (s_not (et (k50 d4)) (dt (q50 p5)) ?_)
              refine wl (s_pickt (et (k40 d9)) (et (k50 d5)) (dt (q50 p6)) ?_)
              refine wl (s_assign (et (k50 d6)) (dt (q20 p9)) ?_)
              refine wnil ?_
              refine xl ?_
              exact ⟨_,_,rfl,(aK20 (aK9 (aI (aO20 (aO7 aZ))))),_,(!r29),rfl,h,le31,hS⟩
            · replace h:=iF h28 h
              refine wy rfl (k40 d2) (s_move (et d1) (dt (q40 p3)) ?_)
              refine wy rfl (k40 d2) (s_nilck (et (k40 d3)) (dt (q40 p4)) ?_)
              refine wy rfl (k40 d2) (s_fa fa41_0 (et (k40 d4)) rfl (dt (q40 p5)) ?_)
              refine wy rfl (k40 d2) (s_load ti3 (et (k40 d5)) ((m14 _ ((le17.t le21) _ hS.a)).one d0) (dt (q40 p6)) ?_)
              refine wy rfl (k40 d2) (s_eqi (et (k40 d6)) ec (dt (q40 p7)) ?_)
              refine wl (s_pickf (et (k40 d2)) (et (k40 d7)) (dt (q40 p8)) ?_)
              refine wl (s_move (et (k40 d8)) (dt (q40 p9)) ?_)
              refine wspd (k40 d9) (q40 p9) (q40 p9) (fun h32=>?_) (fun h32=>?_)
              · replace h:=iT h32 h
                refine wy rfl (k40 d9) (s_move (et d1) (dt (q50 p0)) ?_)
                refine wy rfl (k40 d9) (s_nilck (et (k50 d0)) (dt (q50 p1)) ?_)
                refine wy rfl (k40 d9) (s_fa fa41_1 (et (k50 d1)) rfl (dt (q50 p2)) ?_)
                refine wy rfl (k40 d9) (s_load ti9 (et (k50 d2)) ((m14 _ ((le17.t le21) _ hS.a)).one d1) (dt (q50 p3)) ?_)
                replace h:=bI h; obtain ⟨r33,g34,h⟩:=h
                refine wy rfl (k40 d9) (s_callv isfn35 ef (e1 (et (k50 d3)) e0) (lex_named_w (hg.t (le17.t le21)) g34 hS) ?_)
                rintro _ w5 ⟨μ5,rfl,le35,hS⟩
                refine pu (dt (q50 p4)) ?_
                refine wy rfl (k40 d9) (s_not (et (k50 d4)) (dt (q50 p5)) ?_)
                refine wl (s_pickt (et (k40 d9)) (et (k50 d5)) (dt (q50 p6)) ?_)
                refine wl (s_assign (et (k50 d6)) (dt (q20 p9)) ?_)
                refine wnil ?_
                refine xl ?_
                exact ⟨_,_,rfl,(aK20 (aK9 (aI (aO20 (aO7 aZ))))),_,(!r33),rfl,h,le35,hS⟩
              · replace h:=iF h32 h
                refine wn rfl (k40 d9) rfl (dt (q50 p0)) ?_
                refine wn rfl (k40 d9) rfl (dt (q50 p1)) ?_
                refine wn rfl (k40 d9) rfl (dt (q50 p2)) ?_
                refine wn rfl (k40 d9) rfl (dt (q50 p3)) ?_
                refine wn rfl (k40 d9) rfl (dt (q50 p4)) ?_
                refine wn rfl (k40 d9) rfl (dt (q50 p5)) ?_
                refine wl (s_pickf (et (k40 d9)) ec (dt (q50 p6)) ?_)
                refine wl (s_assign (et (k50 d6)) (dt (q20 p9)) ?_)
                refine wnil ?_
                refine xl ?_
                exact ⟨_,_,rfl,(aK20 (aK9 (aI (aO20 (aO7 aZ))))),_,false,rfl,h,Le.r,hS⟩
        · rintro _ t w6 ⟨μ6,b23,rfl,h,le36,hS⟩
          unfold syn_stat_j2 at h
          refine nrm (mK20 (mK9 (mi (mO20 (mO7 mz))))) ?_
          refine xn ?_
          refine cifb (et (k20 d9)) (fun h37=>?_) (fun h37=>?_)
          · replace h:=iT h37 h
            refine cseq ?_
            refine creg ?_
            refine wl (s_assign ec (dt p6) ?_)
            refine wnil ?_
            refine xn ?_
            refine cret ?_
            refine (fun h=>br (xr h)) ?_
            obtain rfl:=oI h
            refine ret1 rfl d6 ?_
            exact ⟨_,rfl,(le17.t (le21.t le36)),hS⟩
          · replace h:=iF h37 h
            refine cseq ?_
            refine creg ?_
            refine wl (s_move (et d1) (dt (q50 p8)) ?_)
            refine wl (s_nilck (et (k50 d8)) (dt (q50 p9)) ?_)
            refine wl (s_fa fa41_0 (et (k50 d9)) rfl (dt (q60 p0)) ?_)
            refine wl (s_load ti3 (et (k60 d0)) ((m14 _ ((le17.t (le21.t le36)) _ hS.a)).one d0) (dt (q60 p1)) ?_)
            refine wl (s_eqi (et (k60 d1)) ec (dt (q60 p2)) ?_)
            refine wl (s_assign (et (k60 d2)) (dt (q50 p7)) ?_)
            refine wnil ?_
            refine xn ?_
            refine cifd (et (k50 d7)) (fun h38=>?_) (fun h38=>?_)
            · replace h:=iT h38 h
              refine cseq ?_
              refine creg ?_
              refine wl (s_assign ec (dt p6) ?_)
              refine wnil ?_
              refine xn ?_
              refine cret ?_
              refine (fun h=>br (xr h)) ?_
              obtain rfl:=oI h
              refine ret1 rfl d6 ?_
              exact ⟨_,rfl,(le17.t (le21.t le36)),hS⟩
            · replace h:=iF h38 h
              refine cskip ?_
              refine (fun h=>bn (xn h)) ?_
              refine cseq ?_
              refine cseq ?_
              refine creg ?_
              refine wl (s_move (et d0) (dt (q60 p3)) ?_)
              refine wl (s_move (et d1) (dt (q60 p4)) ?_)
              refine wl (s_nilck (et (k60 d4)) (dt (q60 p5)) ?_)
              refine wl (s_fa fa41_2 (et (k60 d5)) rfl (dt (q60 p6)) ?_)
              refine wl (s_move (et d2) (dt (q60 p7)) ?_)
              replace h:=bI h; obtain ⟨i39,g40,h⟩:=h
              refine wl (s_addc (et (k60 d7)) ec g40 (dt (q60 p8)) ?_)
              replace h:=bI h; obtain ⟨r41,g42,h⟩:=h
              refine wl (s_callv isfn59 ef (e1 (et (k60 d3)) (e1 (et (k60 d6)) (e1 (et (k60 d8)) e0))) ((SynExpr_sound fu).syn_expr (hg.t (le17.t (le21.t le36))) (m7.up (le17.t (le21.t le36))) ((m14.up (le17.t (le21.t le36))).sb 2 4) g42 hS) ?_)
              rintro _ w7 ⟨μ7,rfl,le43,hS⟩
              refine pu (dt (q60 p9)) ?_
              refine wl (s_assign (et (k60 d9)) (dt p8) ?_)
              refine wnil ?_
              refine xn ?_
              refine cseq ?_
              refine creg ?_
              refine wl (s_move (et d8) (dt (q70 p0)) ?_)
              refine wl (s_nei (et (k70 d0)) ec (dt (q70 p1)) ?_)
              refine wnil ?_
              refine xn ?_
              refine cifd (et (k70 d1)) (fun h44=>?_) (fun h44=>?_)
              · replace h:=iT h44 h
                refine cseq ?_
                refine creg ?_
                refine wl (s_move (et d8) (dt (q70 p2)) ?_)
                refine wl (s_assign (et (k70 d2)) (dt p6) ?_)
                refine wnil ?_
                refine xn ?_
                refine cret ?_
                refine xr ?_
                obtain rfl:=oI h
                refine ret1 rfl d6 ?_
                exact ⟨_,rfl,(le17.t (le21.t (le36.t le43))),hS⟩
              · replace h:=iF h44 h
                refine cskip ?_
                refine xn ?_
                refine cseq ?_
                refine cseq ?_
                refine ccutE (rg 73 11) (by decide) (fun m w=>∃ (μx:M) (b45:Bool),m=(yK50 (yK20 (yK3 (yO10 73 (yO1 83 (.i (.bool b45)::[]))))))∧syn_stat_j3 self p_2 p_3 r41 b45=some r∧Le μ7 μx∧Sq μx w0 w (.blk b1 76 [.int .i64 r41.2]::rsF)) (by rintro _ _ ⟨_,_,rfl,_⟩; rfl) ?_ ?_
                · refine creg ?_
                  refine wl (s_move (et d1) (dt (q70 p3)) ?_)
                  refine wl (s_nilck (et (k70 d3)) (dt (q70 p4)) ?_)
                  refine wl (s_fa fa41_0 (et (k70 d4)) rfl (dt (q70 p5)) ?_)
                  refine wl (s_load ti3 (et (k70 d5)) ((m14 _ ((le17.t (le21.t (le36.t le43))) _ hS.a)).one d0) (dt (q70 p6)) ?_)
                  refine wl (s_eqi (et (k70 d6)) ec (dt (q70 p7)) ?_)
                  refine wl (s_move (et (k70 d7)) (dt (q70 p8)) ?_)
                  refine wspd (k70 d8) (q70 p8) (q70 p8) (fun h46=>?_) (fun h46=>?_)
                  · replace h:=iT h46 h
                    refine wn rfl (k70 d8) rfl (dt (q70 p9)) ?_
                    refine wn rfl (k70 d8) rfl (dt (q80 p0)) ?_
                    refine wn rfl (k70 d8) rfl (dt (q80 p1)) ?_
                    refine wn rfl (k70 d8) rfl (dt (q80 p2)) ?_
                    refine wn rfl (k70 d8) rfl (dt (q80 p3)) ?_
                    refine wl (s_pickt (et (k70 d8)) ec (dt (q80 p4)) ?_)
                    refine wnil ?_
                    refine xl ?_
                    exact ⟨_,_,rfl,(aK50 (aK20 (aK3 (aO10 (aO1 (aI aZ)))))),_,true,rfl,h,Le.r,hS⟩
                  · replace h:=iF h46 h
                    refine wy rfl (k70 d8) (s_move (et d1) (dt (q70 p9)) ?_)
                    refine wy rfl (k70 d8) (s_nilck (et (k70 d9)) (dt (q80 p0)) ?_)
                    refine wy rfl (k70 d8) (s_fa fa41_0 (et (k80 d0)) rfl (dt (q80 p1)) ?_)
                    refine wy rfl (k70 d8) (s_load ti3 (et (k80 d1)) ((m14 _ ((le17.t (le21.t (le36.t le43))) _ hS.a)).one d0) (dt (q80 p2)) ?_)
                    refine wy rfl (k70 d8) (s_eqi (et (k80 d2)) ec (dt (q80 p3)) ?_)
                    refine wl (s_pickf (et (k70 d8)) (et (k80 d3)) (dt (q80 p4)) ?_)
                    refine wnil ?_
                    refine xl ?_
                    exact ⟨_,_,rfl,(aK50 (aK20 (aK3 (aO10 (aO1 (aI aZ)))))),_,(decide (p_2.Kind=4)),rfl,h,Le.r,hS⟩
                · rintro _ t w8 ⟨μ8,b45,rfl,h,le47,hS⟩
                  unfold syn_stat_j3 at h
                  refine nrm (mK50 (mK20 (mK3 (mO10 (mO1 (mi mz)))))) ?_
                  refine xn ?_
                  refine ccutE ([6]++[9]++rg 85 11) (by decide) (fun m w=>∃ (μx:M) (i48:Int),m=(yK6 (yO1 6 (yK2 (yO1 9 (yK50 (yK20 (yK5 (yO10 85 (yO1 95 [])))))))))∧syn_stat_j4 self p_2 p_3 i48=some r∧Le μ8 μx∧Sq μx w0 w (.blk b1 76 [.int .i64 i48]::rsF)) (by rintro _ _ ⟨_,_,rfl,_⟩; rfl) ?_ ?_
                  · refine cifb (et (k80 d4)) (fun h49=>?_) (fun h49=>?_)
                    · replace h:=iT h49 h
                      refine cseq ?_
                      refine creg ?_
                      refine wl (s_move (et d0) (dt (q80 p5)) ?_)
                      refine wl (s_move (et d1) (dt (q80 p6)) ?_)
                      refine wl (s_nilck (et (k80 d6)) (dt (q80 p7)) ?_)
                      refine wl (s_fa fa41_3 (et (k80 d7)) rfl (dt (q80 p8)) ?_)
                      refine wl (s_load ti34 (et (k80 d8)) ((m14 _ ((le17.t (le21.t (le36.t (le43.t le47)))) _ hS.a)).one d6) (dt (q80 p9)) ?_)
                      refine wl (s_move (et d2) (dt (q90 p0)) ?_)
                      replace h:=bI h; obtain ⟨i50,g51,h⟩:=h
                      refine wl (s_addc (et (k90 d0)) ec g51 (dt (q90 p1)) ?_)
                      replace h:=bI h; obtain ⟨r52,g53,h⟩:=h
                      refine wl (s_callv isfn40 ef (e1 (et (k80 d5)) (e1 (et (k80 d9)) (e1 (et (k90 d1)) e0))) (IH.syn_stats (hg.t (le17.t (le21.t (le36.t (le43.t le47))))) (m10.up (le17.t (le21.t (le36.t (le43.t le47))))) g53 hS) ?_)
                      rintro _ w9 ⟨μ9,rfl,le54,hS⟩
                      refine pu (dt (q90 p2)) ?_
                      refine wl (s_assign (et (k90 d2)) (dt p9) ?_)
                      refine wnil ?_
                      refine xn ?_
                      refine cseq ?_
                      refine creg ?_
                      refine wl (s_move (et d9) (dt (q90 p3)) ?_)
                      refine wl (s_nei (et (k90 d3)) ec (dt (q90 p4)) ?_)
                      refine wnil ?_
                      refine xn ?_
                      refine cifd (et (k90 d4)) (fun h55=>?_) (fun h55=>?_)
                      · replace h:=iT h55 h
                        refine cseq ?_
                        refine creg ?_
                        refine wl (s_move (et d9) (dt (q90 p5)) ?_)
                        refine wl (s_assign (et (k90 d5)) (dt p6) ?_)
                        refine wnil ?_
                        refine xn ?_
                        refine cret ?_
                        refine (fun h=>xr (xr h)) ?_
                        obtain rfl:=oI h
                        refine ret1 rfl d6 ?_
                        exact ⟨_,rfl,(le17.t (le21.t (le36.t (le43.t (le47.t le54))))),hS⟩
                      · replace h:=iF h55 h
                        refine cskip ?_
                        refine xl ?_
                        exact ⟨_,_,rfl,(aK6 (aO1 (aK2 (aO1 (aK50 (aK20 (aK5 (aO10 (aO1 aZ))))))))),_,r52.2,rfl,h,le54,hS⟩
                    · replace h:=iF h49 h
                      refine cskip ?_
                      refine xl ?_
                      exact ⟨_,_,rfl,(aK6 (aO1 (aK2 (aO1 (aK50 (aK20 (aK5 (aO10 (aO1 aZ))))))))),_,r41.2,rfl,h,Le.r,hS⟩
                  · rintro _ t w10 ⟨μ10,i48,rfl,h,le56,hS⟩
                    unfold syn_stat_j4 at h
                    refine nrm (mK6 (mO1 (mK2 (mO1 (mK50 (mK20 (mK5 (mO10 (mO1 mz))))))))) ?_
                    refine xn ?_
                    refine cseq ?_
                    refine cseq ?_
                    refine creg ?_
                    refine wl (s_move (et d1) (dt (q90 p6)) ?_)
                    refine wl (s_nilck (et (k90 d6)) (dt (q90 p7)) ?_)
                    refine wl (s_fa fa41_0 (et (k90 d7)) rfl (dt (q90 p8)) ?_)
                    refine wl (s_load ti3 (et (k90 d8)) ((m14 _ ((le17.t (le21.t (le36.t (le43.t (le47.t le56))))) _ hS.a)).one d0) (dt (q90 p9)) ?_)
                    refine wl (s_eqi (et (k90 d9)) ec (dt (q100 p0)) ?_)
                    refine wnil ?_
                    refine xn ?_
                    refine cifd (et (k100 d0)) (fun h57=>?_) (fun h57=>?_)
                    · replace h:=iT h57 h
                      refine cseq ?_
                      refine creg ?_
                      refine wl (s_move (et d0) (dt (q100 p1)) ?_)
                      refine wl (s_move (et d1) (dt (q100 p2)) ?_)
                      refine wl (s_nilck (et (k100 d2)) (dt (q100 p3)) ?_)
                      refine wl (s_fa fa41_4 (et (k100 d3)) rfl (dt (q100 p4)) ?_)
                      refine wl (s_load ti34 (et (k100 d4)) ((m14 _ ((le17.t (le21.t (le36.t (le43.t (le47.t le56))))) _ hS.a)).one d7) (dt (q100 p5)) ?_)
                      refine wl (s_move (et d2) (dt (q100 p6)) ?_)
                      replace h:=bI h; obtain ⟨i58,g59,h⟩:=h
                      refine wl (s_addc (et (k100 d6)) ec g59 (dt (q100 p7)) ?_)
                      replace h:=bI h; obtain ⟨r60,g61,h⟩:=h
                      refine wl (s_callv isfn40 ef (e1 (et (k100 d1)) (e1 (et (k100 d5)) (e1 (et (k100 d7)) e0))) (IH.syn_stats (hg.t (le17.t (le21.t (le36.t (le43.t (le47.t le56)))))) (m13.up (le17.t (le21.t (le36.t (le43.t (le47.t le56)))))) g61 hS) ?_)
                      rintro _ w11 ⟨μ11,rfl,le62,hS⟩
                      refine pu (dt (q100 p8)) ?_
                      refine wl (s_assign (et (k100 d8)) (dt p6) ?_)
                      refine wnil ?_
                      refine xn ?_
                      refine cret ?_
                      refine xr ?_
                      obtain rfl:=oI h
                      refine ret1 rfl d6 ?_
                      exact ⟨_,rfl,(le17.t (le21.t (le36.t (le43.t (le47.t (le56.t le62)))))),hS⟩
                    · replace h:=iF h57 h
                      refine cskip ?_
                      refine xn ?_
                      refine cseq ?_
                      refine creg ?_
                      refine wl (s_assign ec (dt p6) ?_)
                      refine wnil ?_
                      refine xn ?_
                      refine cret ?_
                      obtain rfl:=oI h
                      refine ret1 rfl d6 ?_
                      exact ⟨_,rfl,(le17.t (le21.t (le36.t (le43.t (le47.t le56))))),hS⟩
theorem SynStat_sound:∀ n,SynStatSound (SynStat_run n)
  | 0=>⟨(by intros; rename_i h _; cases h),(by intros; rename_i h _; cases h)⟩
  | n+1=>⟨syn_stats_w (SynStat_sound n),syn_stat_w (SynStat_sound n)⟩
theorem syn_def_w {fu:Nat} {μ0:M} {w0 w:World} {rsF:List Res} (hg:Le Gm μ0) {b1:Nat} {node_2:Int} {p_2:TDef} {b3:Nat} {o4:Nat} {a5:Option Addr} {c6:Nat} {a8:Option Addr} {c9:Nat} {r:Int×Int} (m7:Sl μ0 a5 c6 p_2.Params) (m10:Sl μ0 a8 c9 p_2.Body) (m11:At μ0 b3 o4 [.int .i64 p_2.Kind,S p_2.Name,.int .i64 p_2.Typ.Kind,S p_2.Typ.Gen,.int .i64 p_2.Takes.Kind,S p_2.Takes.Gen,.int .i64 p_2.Cap,.slice a5 p_2.Params.length c6,.slice a8 p_2.Body.length c9]) (h:syn_def fu node_2 p_2=some r) (hS:Sq μ0 w0 w (.blk b1 76 [.int .i64 node_2]::rsF)):CallsV Tryd.prog 28 [.pointer (some ⟨b1,0,none⟩),.pointer (some ⟨b3,o4,none⟩)] w (fun v w'=>∃ (μ':M) ,v=.int .i64 r.1∧Le μ0 μ'∧Sq μ' w0 w' (.blk b1 76 [.int .i64 r.2]::rsF)):=by
  unfold syn_def at h
  refine enter Tryd.func28 rfl (frm:=[_,_,_,_,_,_,_,_,_,_,_,_,_,_,_,_,_,_,_,_,_,_,_,_,_,_,_,_,_,_,_,_,_,_,_,_,_,_,_,_,_,_,_,_,_,_,_,_,_,_,_,_,_,_,_,_,_,_,_,_,_,_,_,_,_,_,_,_,_,_,_,_,_,_,_,_,_,_,_,_,_,_,_,_,_,_,_,_,_,_,_,_,_,_,_,_,_,_,_,_,_,_,_,_,_,_,_,_,_,_,_,_,_,_,_,_,_,_,_,_,_]) rfl ?_
  refine cseq ?_
  refine creg ?_
  refine wl (s_assign ec (dt p4) ?_)
  refine wnil ?_
  refine xn ?_
  refine cseq ?_
  refine cseq ?_
  refine creg ?_
  refine wl (s_move (et d0) (dt (q10 p1)) ?_)
  replace h:=bI h; obtain ⟨r12,g13,h⟩:=h
  refine wl (s_callv isfn38 ef (e1 (et (k10 d1)) (e1 ec e0)) (syn_node_w hg g13 hS) ?_)
  rintro _ w1 ⟨μ1,rfl,le14,hS⟩
  refine pu (dt (q10 p2)) ?_
  refine wl (s_assign (et (k10 d2)) (dt p5) ?_)
  refine wnil ?_
  refine xn ?_
  refine cseq ?_
  refine creg ?_
  refine wl (s_move (et d5) (dt (q10 p3)) ?_)
  refine wl (s_nei (et (k10 d3)) ec (dt (q10 p4)) ?_)
  refine wnil ?_
  refine xn ?_
  refine cifd (et (k10 d4)) (fun h15=>?_) (fun h15=>?_)
  · replace h:=iT h15 h
    refine cseq ?_
    refine creg ?_
    refine wl (s_move (et d5) (dt (q10 p5)) ?_)
    refine wl (s_assign (et (k10 d5)) (dt p4) ?_)
    refine wnil ?_
    refine xn ?_
    refine cret ?_
    refine xr ?_
    obtain rfl:=oI h
    refine ret1 rfl d4 ?_
    exact ⟨_,rfl,le14,hS⟩
  · replace h:=iF h15 h
    refine cskip ?_
    refine xn ?_
    refine cseq ?_
    refine cseq ?_
    refine ccutE (rg 16 11) (by decide) (fun m w=>∃ (μx:M) (b16:Bool),m=(yK10 (yK6 (yO10 16 (yO1 26 (.i (.bool b16)::[])))))∧syn_def_j1 fu p_2 r12 b16=some r∧Le μ1 μx∧Sq μx w0 w (.blk b1 76 [.int .i64 r12.2]::rsF)) (by rintro _ _ ⟨_,_,rfl,_⟩; rfl) ?_ ?_
    · refine creg ?_
      refine wl (s_move (et d1) (dt (q10 p6)) ?_)
      refine wl (s_nilck (et (k10 d6)) (dt (q10 p7)) ?_)
      refine wl (s_fa fa36_0 (et (k10 d7)) rfl (dt (q10 p8)) ?_)
      refine wl (s_load ti3 (et (k10 d8)) ((m11 _ (le14 _ hS.a)).one d0) (dt (q10 p9)) ?_)
      refine wl (s_lss (et (k10 d9)) ec (dt (q20 p0)) ?_)
      refine wl (s_move (et (k20 d0)) (dt (q20 p1)) ?_)
      refine wspd (k20 d1) (q20 p1) (q20 p1) (fun h17=>?_) (fun h17=>?_)
      · replace h:=iT h17 h
        refine wn rfl (k20 d1) rfl (dt (q20 p2)) ?_
        refine wn rfl (k20 d1) rfl (dt (q20 p3)) ?_
        refine wn rfl (k20 d1) rfl (dt (q20 p4)) ?_
        refine wn rfl (k20 d1) rfl (dt (q20 p5)) ?_
        refine wn rfl (k20 d1) rfl (dt (q20 p6)) ?_
        refine wl (s_pickt (et (k20 d1)) ec (dt (q20 p7)) ?_)
        refine wnil ?_
        refine xl ?_
        exact ⟨_,_,rfl,(aK10 (aK6 (aO10 (aO1 (aI aZ))))),_,true,rfl,h,Le.r,hS⟩
      · replace h:=iF h17 h
        refine wy rfl (k20 d1) (s_move (et d1) (dt (q20 p2)) ?_)
        refine wy rfl (k20 d1) (s_nilck (et (k20 d2)) (dt (q20 p3)) ?_)
        refine wy rfl (k20 d1) (s_fa fa36_0 (et (k20 d3)) rfl (dt (q20 p4)) ?_)
        refine wy rfl (k20 d1) (s_load ti3 (et (k20 d4)) ((m11 _ (le14 _ hS.a)).one d0) (dt (q20 p5)) ?_)
        refine wy rfl (k20 d1) (s_gtr (et (k20 d5)) ec (dt (q20 p6)) ?_)
        refine wl (s_pickf (et (k20 d1)) (et (k20 d6)) (dt (q20 p7)) ?_)
        refine wnil ?_
        refine xl ?_
        exact ⟨_,_,rfl,(aK10 (aK6 (aO10 (aO1 (aI aZ))))),_,(decide ((4:Int)<p_2.Kind)),rfl,h,Le.r,hS⟩
    · rintro _ t w2 ⟨μ2,b16,rfl,h,le18,hS⟩
      unfold syn_def_j1 at h
      refine nrm (mK10 (mK6 (mO10 (mO1 (mi mz))))) ?_
      refine xn ?_
      refine cifb (et (k20 d7)) (fun h19=>?_) (fun h19=>?_)
      · replace h:=iT h19 h
        refine cseq ?_
        refine creg ?_
        refine wl (s_assign ec (dt p4) ?_)
        refine wnil ?_
        refine xn ?_
        refine cret ?_
        refine xr ?_
        obtain rfl:=oI h
        refine ret1 rfl d4 ?_
        exact ⟨_,rfl,(le14.t le18),hS⟩
      · replace h:=iF h19 h
        refine cskip ?_
        refine xn ?_
        refine cseq ?_
        refine cseq ?_
        refine creg ?_
        refine wl (s_move (et d1) (dt (q20 p8)) ?_)
        refine wl (s_nilck (et (k20 d8)) (dt (q20 p9)) ?_)
        refine wl (s_fa fa36_1 (et (k20 d9)) rfl (dt (q30 p0)) ?_)
        refine wl (s_load ti9 (et (k30 d0)) ((m11 _ ((le14.t le18) _ hS.a)).one d1) (dt (q30 p1)) ?_)
        replace h:=bI h; obtain ⟨r20,g21,h⟩:=h
        refine wl (s_callv isfn35 ef (e1 (et (k30 d1)) e0) (lex_named_w (hg.t (le14.t le18)) g21 hS) ?_)
        rintro _ w3 ⟨μ3,rfl,le22,hS⟩
        refine pu (dt (q30 p2)) ?_
        refine wl (s_not (et (k30 d2)) (dt (q30 p3)) ?_)
        refine wnil ?_
        refine xn ?_
        refine cifnb (et (k30 d3)) (fun h23=>?_) (fun h23=>?_)
        · replace h:=iF h23 h
          refine cseq ?_
          refine creg ?_
          refine wl (s_assign ec (dt p4) ?_)
          refine wnil ?_
          refine xn ?_
          refine cret ?_
          refine xr ?_
          obtain rfl:=oI h
          refine ret1 rfl d4 ?_
          exact ⟨_,rfl,(le14.t (le18.t le22)),hS⟩
        · replace h:=iT h23 h
          refine cskip ?_
          refine xn ?_
          refine cseq ?_
          refine cseq ?_
          refine ccutE (rg 34 11) (by decide) (fun m w=>∃ (μx:M) (b24:Bool),m=(yK20 (yK10 (yK4 (yO10 34 (yO1 44 (.i (.bool b24)::[]))))))∧syn_def_j2 fu p_2 r12 b24=some r∧Le μ3 μx∧Sq μx w0 w (.blk b1 76 [.int .i64 r12.2]::rsF)) (by rintro _ _ ⟨_,_,rfl,_⟩; rfl) ?_ ?_
          · refine creg ?_
            refine wl (s_move (et d1) (dt (q30 p4)) ?_)
            refine wl (s_nilck (et (k30 d4)) (dt (q30 p5)) ?_)
            refine wl (s_fa fa36_0 (et (k30 d5)) rfl (dt (q30 p6)) ?_)
            refine wl (s_load ti3 (et (k30 d6)) ((m11 _ ((le14.t (le18.t le22)) _ hS.a)).one d0) (dt (q30 p7)) ?_)
            refine wl (s_eqi (et (k30 d7)) ec (dt (q30 p8)) ?_)
            refine wl (s_move (et (k30 d8)) (dt (q30 p9)) ?_)
            refine wspd (k30 d9) (q30 p9) (q30 p9) (fun h25=>?_) (fun h25=>?_)
            · replace h:=iT h25 h
              refine wn rfl (k30 d9) rfl (dt (q40 p0)) ?_
              refine wn rfl (k30 d9) rfl (dt (q40 p1)) ?_
              refine wn rfl (k30 d9) rfl (dt (q40 p2)) ?_
              refine wn rfl (k30 d9) rfl (dt (q40 p3)) ?_
              refine wn rfl (k30 d9) rfl (dt (q40 p4)) ?_
              refine wl (s_pickt (et (k30 d9)) ec (dt (q40 p5)) ?_)
              refine wnil ?_
              refine xl ?_
              exact ⟨_,_,rfl,(aK20 (aK10 (aK4 (aO10 (aO1 (aI aZ)))))),_,true,rfl,h,Le.r,hS⟩
            · replace h:=iF h25 h
              refine wy rfl (k30 d9) (s_move (et d1) (dt (q40 p0)) ?_)
              refine wy rfl (k30 d9) (s_nilck (et (k40 d0)) (dt (q40 p1)) ?_)
              refine wy rfl (k30 d9) (s_fa fa36_0 (et (k40 d1)) rfl (dt (q40 p2)) ?_)
              refine wy rfl (k30 d9) (s_load ti3 (et (k40 d2)) ((m11 _ ((le14.t (le18.t le22)) _ hS.a)).one d0) (dt (q40 p3)) ?_)
              refine wy rfl (k30 d9) (s_eqi (et (k40 d3)) ec (dt (q40 p4)) ?_)
              refine wl (s_pickf (et (k30 d9)) (et (k40 d4)) (dt (q40 p5)) ?_)
              refine wnil ?_
              refine xl ?_
              exact ⟨_,_,rfl,(aK20 (aK10 (aK4 (aO10 (aO1 (aI aZ)))))),_,(decide (p_2.Kind=3)),rfl,h,Le.r,hS⟩
          · rintro _ t w4 ⟨μ4,b24,rfl,h,le26,hS⟩
            unfold syn_def_j2 at h
            refine nrm (mK20 (mK10 (mK4 (mO10 (mO1 (mi mz)))))) ?_
            refine xn ?_
            refine ccutE ([4]++rg 7 2++rg 46 26) (by decide +kernel) (fun m w=>∃ (μx:M) ,m=(yK4 (yO1 4 (yK2 (yO2 7 (yK20 (yK10 (yK7 (yO20 46 (yO6 66 [])))))))))∧syn_def_j3 fu p_2 r12 =some r∧Le μ4 μx∧Sq μx w0 w (.blk b1 76 [.int .i64 r12.2]::rsF)) (by rintro _ _ ⟨_,rfl,_⟩; rfl) ?_ ?_
            · refine cifb (et (k40 d5)) (fun h27=>?_) (fun h27=>?_)
              · replace h:=iT h27 h
                refine cseq ?_
                refine cseq ?_
                refine creg ?_
                refine wl (s_move (et d1) (dt (q40 p6)) ?_)
                refine wl (s_nilck (et (k40 d6)) (dt (q40 p7)) ?_)
                refine wl (s_fa fa36_5 (et (k40 d7)) rfl (dt (q40 p8)) ?_)
                refine wl (s_load ti33 (et (k40 d8)) ((m11 _ ((le14.t (le18.t (le22.t le26))) _ hS.a)).one d7) (dt (q40 p9)) ?_)
                refine wl (s_lensl Tryd.underlying33 (et (k40 d9)) (dt (q50 p0)) ?_)
                refine wl (s_gtr (et (k50 d0)) ec (dt (q50 p1)) ?_)
                refine wnil ?_
                refine xn ?_
                refine cifd (et (k50 d1)) (fun h28=>?_) (fun h28=>?_)
                · replace h:=iT h28 h
                  refine cseq ?_
                  refine creg ?_
                  refine wl (s_assign ec (dt p4) ?_)
                  refine wnil ?_
                  refine xn ?_
                  refine cret ?_
                  refine (fun h=>xr (xr (xr h))) ?_
                  obtain rfl:=oI h
                  refine ret1 rfl d4 ?_
                  exact ⟨_,rfl,(le14.t (le18.t (le22.t le26))),hS⟩
                · replace h:=iF h28 h
                  refine cskip ?_
                  refine xn ?_
                  refine cseq ?_
                  refine creg ?_
                  refine wl (s_move (et d1) (dt (q50 p2)) ?_)
                  refine wl (s_nilck (et (k50 d2)) (dt (q50 p3)) ?_)
                  refine wl (s_fa fa36_5 (et (k50 d3)) rfl (dt (q50 p4)) ?_)
                  refine wl (s_load ti33 (et (k50 d4)) ((m11 _ ((le14.t (le18.t (le22.t le26))) _ hS.a)).one d7) (dt (q50 p5)) ?_)
                  refine wl (s_lensl Tryd.underlying33 (et (k50 d5)) (dt (q50 p6)) ?_)
                  refine wl (s_move ec (dt (q50 p7)) ?_)
                  refine wnil ?_
                  refine xn ?_
                  refine cblock ?_
                  refine cloopE ([4]++rg 7 2++rg 58 14) (by decide) (fun n m w=>∃ (μx:M) (i47:Int),m=(yK4 (yO1 4 (yK2 (yO2 7 (yK20 (yK20 (yK8 (.i (.int .i64 i47)::(yO10 58 (yO4 68 []))))))))))∧syn_def_l1 fu p_2 r12 n i47=some r∧Le μ4 μx∧Sq μx w0 w (.blk b1 76 [.int .i64 r12.2]::rsF)) (by rintro _ _ _ ⟨_,_,rfl,_⟩; rfl) _ _ (aK4 (aO1 (aK2 (aO2 (aK20 (aK20 (aK8 (aI (aO10 (aO4 aZ)))))))))) ⟨_,0,rfl,h,Le.r,hS⟩ ?_
                  rintro n_1 _ t w5 ⟨μ5,i47,rfl,h,le67,hS⟩
                  cases n_1 with
                  | zero=>cases h
                  | succ n_1 =>
                  unfold syn_def_l1 at h
                  refine cnrm (mK4 (mO1 (mK2 (mO2 (mK20 (mK20 (mK8 (mi (mO10 (mO4 mz)))))))))) ?_
                  refine cseq ?_
                  refine creg ?_
                  refine wl (s_lss (et (k50 d7)) (et (k50 d6)) (dt (q50 p8)) ?_)
                  refine wnil ?_
                  refine xn ?_
                  refine cseq ?_
                  refine cifd (et (k50 d8)) (fun h68=>?_) (fun h68=>?_)
                  · replace h:=iT h68 h
                    refine cskip ?_
                    refine xn ?_
                    refine cseq ?_
                    refine cblock ?_
                    refine cseq ?_
                    refine creg ?_
                    replace h:=bI h; obtain ⟨x69,g70,h⟩:=h
                    obtain ⟨b71,o72,cs73,e74,f75,m76⟩:=SlR.elem (m7.up (le14.t (le18.t (le22.t (le26.t le67))))) g70
                    obtain rfl:=m76
                    refine wl (s_iax Tryd.underlying33 ti56 (et (k50 d5)) (et (k50 d7)) e74 (dt (q50 p9)) ?_)
                    refine wl (s_loads ti56 (et (k50 d9)) (f75 _ hS.a) rfl (dt (q60 p0)) ?_)
                    refine wl (s_alloc ti56 hS ?_); clear hS; intro b77 w6 hb78 hS; refine pu (dt p7) ?_
                    refine wl (s_storeA ti56 (et d7) (et (k60 d0)) rfl rfl hS d0 rfl p0 dn ?_)
                    clear hS; intro w7 hS
                    refine wnil ?_
                    refine xn ?_
                    refine cseq ?_
                    refine cseq ?_
                    refine creg ?_
                    refine wl (s_fa fa56_0 (et d7) rfl (dt (q60 p1)) ?_)
                    refine wl (s_load ti9 (et (k60 d1)) ((hS.blk d0).cell d0) (dt (q60 p2)) ?_)
                    replace h:=bI h; obtain ⟨r79,g80,h⟩:=h
                    refine wl (s_callv isfn35 ef (e1 (et (k60 d2)) e0) (lex_named_w (hg.t (le14.t (le18.t (le22.t (le26.t le67))))) g80 hS) ?_)
                    rintro _ w8 ⟨μ6,rfl,le81,hS⟩
                    refine pu (dt (q60 p3)) ?_
                    refine wl (s_not (et (k60 d3)) (dt (q60 p4)) ?_)
                    refine wnil ?_
                    refine xn ?_
                    refine cifnb (et (k60 d4)) (fun h82=>?_) (fun h82=>?_)
                    · replace h:=iF h82 h
                      refine cseq ?_
                      refine creg ?_
                      refine wl (s_assign ec (dt p4) ?_)
                      refine wnil ?_
                      refine xn ?_
                      refine cret ?_
                      refine (fun h=>xr (br (xr (xr (br (xr (xr h))))))) ?_
                      obtain rfl:=oI h
                      refine ret1 rfl d4 ?_
                      replace hS:=hS.drop Rm.z
                      exact ⟨_,rfl,(le14.t (le18.t (le22.t (le26.t (le67.t le81))))),hS⟩
                    · replace h:=iT h82 h
                      refine cskip ?_
                      refine xn ?_
                      refine cseq ?_
                      refine creg ?_
                      refine wl (s_fa fa56_1 (et d7) rfl (dt (q60 p5)) ?_)
                      refine wl (s_loads ti32 (et (k60 d5)) ((hS.blk d0).cellsAt (Sb.s d1 (Sb.s d2 Sb.z))) rfl (dt (q60 p6)) ?_)
                      replace h:=bI h; obtain ⟨r83,g84,h⟩:=h
                      refine wl (s_callv isfn39 ef (e1 (et (k60 d6)) e0) (syn_typ_w (hg.t (le14.t (le18.t (le22.t (le26.t (le67.t le81)))))) g84 hS) ?_)
                      rintro _ w9 ⟨μ7,rfl,le85,hS⟩
                      refine pu (dt (q60 p7)) ?_
                      refine wl (s_assign (et (k60 d7)) (dt p8) ?_)
                      refine wnil ?_
                      refine xn ?_
                      refine cseq ?_
                      refine creg ?_
                      refine wl (s_move (et d8) (dt (q60 p8)) ?_)
                      refine wl (s_nei (et (k60 d8)) ec (dt (q60 p9)) ?_)
                      refine wnil ?_
                      refine xn ?_
                      refine cifd (et (k60 d9)) (fun h86=>?_) (fun h86=>?_)
                      · replace h:=iT h86 h
                        refine cseq ?_
                        refine creg ?_
                        refine wl (s_move (et d8) (dt (q70 p0)) ?_)
                        refine wl (s_assign (et (k70 d0)) (dt p4) ?_)
                        refine wnil ?_
                        refine xn ?_
                        refine cret ?_
                        refine (fun h=>br (xr (xr (br (xr (xr h)))))) ?_
                        obtain rfl:=oI h
                        refine ret1 rfl d4 ?_
                        replace hS:=hS.drop Rm.z
                        exact ⟨_,rfl,(le14.t (le18.t (le22.t (le26.t (le67.t (le81.t le85)))))),hS⟩
                      · replace h:=iF h86 h
                        refine cskip ?_
                        refine (fun h=>bn (xn h)) ?_
                        refine creg ?_
                        replace h:=bI h; obtain ⟨i87,g88,h⟩:=h
                        refine wl (s_addc (et (k50 d7)) ec g88 (dt (q70 p1)) ?_)
                        refine wl (s_move (et (k70 d1)) (dt (q50 p7)) ?_)
                        refine wnil ?_
                        refine xl ?_
                        replace hS:=hS.drop Rm.z
                        exact ⟨n_1,_,_,rfl,(aK4 (aO1 (aK2 (aO2 (aK20 (aK20 (aK8 (aI (aO10 (aO4 aZ)))))))))),⟨_,i87,rfl,h,(le67.t (le81.t le85)),hS⟩,Nat.lt_succ_self _⟩
                  · replace h:=iF h68 h
                    refine cexit ?_
                    refine (fun h=>xe (xe (bh h))) ?_
                    refine xl ?_
                    exact ⟨_,_,rfl,(aK4 (aO1 (aK2 (aO2 (aK20 (aK10 (aK7 (aO20 (aO6 aZ))))))))),_,rfl,h,le67,hS⟩
              · replace h:=iF h27 h
                refine cskip ?_
                refine xl ?_
                exact ⟨_,_,rfl,(aK4 (aO1 (aK2 (aO2 (aK20 (aK10 (aK7 (aO20 (aO6 aZ))))))))),_,rfl,h,Le.r,hS⟩
            · rintro _ t w10 ⟨μ8,rfl,h,le89,hS⟩
              unfold syn_def_j3 at h
              refine nrm (mK4 (mO1 (mK2 (mO2 (mK20 (mK10 (mK7 (mO20 (mO6 mz))))))))) ?_
              refine xn ?_
              refine cseq ?_
              refine cseq ?_
              refine creg ?_
              refine wl (s_move (et d1) (dt (q70 p2)) ?_)
              refine wl (s_nilck (et (k70 d2)) (dt (q70 p3)) ?_)
              refine wl (s_fa fa36_0 (et (k70 d3)) rfl (dt (q70 p4)) ?_)
              refine wl (s_load ti3 (et (k70 d4)) ((m11 _ ((le14.t (le18.t (le22.t (le26.t le89)))) _ hS.a)).one d0) (dt (q70 p5)) ?_)
              refine wl (s_eqi (et (k70 d5)) ec (dt (q70 p6)) ?_)
              refine wnil ?_
              refine xn ?_
              refine ccutE ([4]++[9]++rg 77 8) (by decide) (fun m w=>∃ (μx:M) ,m=(yK4 (yO1 4 (yK4 (yO1 9 (yK50 (yK10 (yK7 (yO8 77 []))))))))∧syn_def_j4 fu p_2 r12 =some r∧Le μ8 μx∧Sq μx w0 w (.blk b1 76 [.int .i64 r12.2]::rsF)) (by rintro _ _ ⟨_,rfl,_⟩; rfl) ?_ ?_
              · refine cifd (et (k70 d6)) (fun h90=>?_) (fun h90=>?_)
                · replace h:=iT h90 h
                  refine cseq ?_
                  refine creg ?_
                  refine wl (s_move (et d1) (dt (q70 p7)) ?_)
                  refine wl (s_nilck (et (k70 d7)) (dt (q70 p8)) ?_)
                  refine wl (s_fa fa36_3 (et (k70 d8)) rfl (dt (q70 p9)) ?_)
                  refine wl (s_loads ti32 (et (k70 d9)) ((m11 _ ((le14.t (le18.t (le22.t (le26.t le89)))) _ hS.a)).sb 4 2) rfl (dt (q80 p0)) ?_)
                  replace h:=bI h; obtain ⟨r91,g92,h⟩:=h
                  refine wl (s_callv isfn39 ef (e1 (et (k80 d0)) e0) (syn_typ_w (hg.t (le14.t (le18.t (le22.t (le26.t le89))))) g92 hS) ?_)
                  rintro _ w11 ⟨μ9,rfl,le93,hS⟩
                  refine pu (dt (q80 p1)) ?_
                  refine wl (s_assign (et (k80 d1)) (dt p9) ?_)
                  refine wnil ?_
                  refine xn ?_
                  refine cseq ?_
                  refine creg ?_
                  refine wl (s_move (et d9) (dt (q80 p2)) ?_)
                  refine wl (s_nei (et (k80 d2)) ec (dt (q80 p3)) ?_)
                  refine wnil ?_
                  refine xn ?_
                  refine cifd (et (k80 d3)) (fun h94=>?_) (fun h94=>?_)
                  · replace h:=iT h94 h
                    refine cseq ?_
                    refine creg ?_
                    refine wl (s_move (et d9) (dt (q80 p4)) ?_)
                    refine wl (s_assign (et (k80 d4)) (dt p4) ?_)
                    refine wnil ?_
                    refine xn ?_
                    refine cret ?_
                    refine (fun h=>xr (xr h)) ?_
                    obtain rfl:=oI h
                    refine ret1 rfl d4 ?_
                    exact ⟨_,rfl,(le14.t (le18.t (le22.t (le26.t (le89.t le93))))),hS⟩
                  · replace h:=iF h94 h
                    refine cskip ?_
                    refine xl ?_
                    exact ⟨_,_,rfl,(aK4 (aO1 (aK4 (aO1 (aK50 (aK10 (aK7 (aO8 aZ)))))))),_,rfl,h,le93,hS⟩
                · replace h:=iF h90 h
                  refine cskip ?_
                  refine xl ?_
                  exact ⟨_,_,rfl,(aK4 (aO1 (aK4 (aO1 (aK50 (aK10 (aK7 (aO8 aZ)))))))),_,rfl,h,Le.r,hS⟩
              · rintro _ t w12 ⟨μ10,rfl,h,le95,hS⟩
                unfold syn_def_j4 at h
                refine nrm (mK4 (mO1 (mK4 (mO1 (mK50 (mK10 (mK7 (mO8 mz)))))))) ?_
                refine xn ?_
                refine cseq ?_
                refine cseq ?_
                refine creg ?_
                refine wl (s_move (et d1) (dt (q80 p5)) ?_)
                refine wl (s_nilck (et (k80 d5)) (dt (q80 p6)) ?_)
                refine wl (s_fa fa36_0 (et (k80 d6)) rfl (dt (q80 p7)) ?_)
                refine wl (s_load ti3 (et (k80 d7)) ((m11 _ ((le14.t (le18.t (le22.t (le26.t (le89.t le95))))) _ hS.a)).one d0) (dt (q80 p8)) ?_)
                refine wl (s_nei (et (k80 d8)) ec (dt (q80 p9)) ?_)
                refine wnil ?_
                refine xn ?_
                refine ccutE ([4]++[10]++rg 90 8) (by decide) (fun m w=>∃ (μx:M) ,m=(yK4 (yO1 4 (yK5 (yO1 10 (yK50 (yK20 (yK9 (yO8 90 []))))))))∧syn_def_j5 fu p_2 r12 =some r∧Le μ10 μx∧Sq μx w0 w (.blk b1 76 [.int .i64 r12.2]::rsF)) (by rintro _ _ ⟨_,rfl,_⟩; rfl) ?_ ?_
                · refine cifd (et (k80 d9)) (fun h96=>?_) (fun h96=>?_)
                  · replace h:=iT h96 h
                    refine cseq ?_
                    refine creg ?_
                    refine wl (s_move (et d1) (dt (q90 p0)) ?_)
                    refine wl (s_nilck (et (k90 d0)) (dt (q90 p1)) ?_)
                    refine wl (s_fa fa36_2 (et (k90 d1)) rfl (dt (q90 p2)) ?_)
                    refine wl (s_loads ti32 (et (k90 d2)) ((m11 _ ((le14.t (le18.t (le22.t (le26.t (le89.t le95))))) _ hS.a)).sb 2 2) rfl (dt (q90 p3)) ?_)
                    replace h:=bI h; obtain ⟨r97,g98,h⟩:=h
                    refine wl (s_callv isfn39 ef (e1 (et (k90 d3)) e0) (syn_typ_w (hg.t (le14.t (le18.t (le22.t (le26.t (le89.t le95)))))) g98 hS) ?_)
                    rintro _ w13 ⟨μ11,rfl,le99,hS⟩
                    refine pu (dt (q90 p4)) ?_
                    refine wl (s_assign (et (k90 d4)) (dt (q10 p0)) ?_)
                    refine wnil ?_
                    refine xn ?_
                    refine cseq ?_
                    refine creg ?_
                    refine wl (s_move (et (k10 d0)) (dt (q90 p5)) ?_)
                    refine wl (s_nei (et (k90 d5)) ec (dt (q90 p6)) ?_)
                    refine wnil ?_
                    refine xn ?_
                    refine cifd (et (k90 d6)) (fun h100=>?_) (fun h100=>?_)
                    · replace h:=iT h100 h
                      refine cseq ?_
                      refine creg ?_
                      refine wl (s_move (et (k10 d0)) (dt (q90 p7)) ?_)
                      refine wl (s_assign (et (k90 d7)) (dt p4) ?_)
                      refine wnil ?_
                      refine xn ?_
                      refine cret ?_
                      refine (fun h=>xr (xr h)) ?_
                      obtain rfl:=oI h
                      refine ret1 rfl d4 ?_
                      exact ⟨_,rfl,(le14.t (le18.t (le22.t (le26.t (le89.t (le95.t le99)))))),hS⟩
                    · replace h:=iF h100 h
                      refine cskip ?_
                      refine xl ?_
                      exact ⟨_,_,rfl,(aK4 (aO1 (aK5 (aO1 (aK50 (aK20 (aK9 (aO8 aZ)))))))),_,rfl,h,le99,hS⟩
                  · replace h:=iF h96 h
                    refine cskip ?_
                    refine xl ?_
                    exact ⟨_,_,rfl,(aK4 (aO1 (aK5 (aO1 (aK50 (aK20 (aK9 (aO8 aZ)))))))),_,rfl,h,Le.r,hS⟩
                · rintro _ t w14 ⟨μ12,rfl,h,le101,hS⟩
                  unfold syn_def_j5 at h
                  refine nrm (mK4 (mO1 (mK5 (mO1 (mK50 (mK20 (mK9 (mO8 mz)))))))) ?_
                  refine xn ?_
                  refine cseq ?_
                  refine cseq ?_
                  refine creg ?_
                  refine wl (s_move (et d1) (dt (q90 p8)) ?_)
                  refine wl (s_nilck (et (k90 d8)) (dt (q90 p9)) ?_)
                  refine wl (s_fa fa36_0 (et (k90 d9)) rfl (dt (q100 p0)) ?_)
                  refine wl (s_load ti3 (et (k100 d0)) ((m11 _ ((le14.t (le18.t (le22.t (le26.t (le89.t (le95.t le101)))))) _ hS.a)).one d0) (dt (q100 p1)) ?_)
                  refine wl (s_nei (et (k100 d1)) ec (dt (q100 p2)) ?_)
                  refine wnil ?_
                  refine xn ?_
                  refine cifd (et (k100 d2)) (fun h102=>?_) (fun h102=>?_)
                  · replace h:=iT h102 h
                    refine cseq ?_
                    refine creg ?_
                    refine wl (s_move (et d0) (dt (q100 p3)) ?_)
                    refine wl (s_move (et d1) (dt (q100 p4)) ?_)
                    refine wl (s_nilck (et (k100 d4)) (dt (q100 p5)) ?_)
                    refine wl (s_fa fa36_6 (et (k100 d5)) rfl (dt (q100 p6)) ?_)
                    refine wl (s_load ti34 (et (k100 d6)) ((m11 _ ((le14.t (le18.t (le22.t (le26.t (le89.t (le95.t le101)))))) _ hS.a)).one d8) (dt (q100 p7)) ?_)
                    replace h:=bI h; obtain ⟨r103,g104,h⟩:=h
                    refine wl (s_callv isfn40 ef (e1 (et (k100 d3)) (e1 (et (k100 d7)) (e1 ec e0))) ((SynStat_sound fu).syn_stats (hg.t (le14.t (le18.t (le22.t (le26.t (le89.t (le95.t le101))))))) (m10.up (le14.t (le18.t (le22.t (le26.t (le89.t (le95.t le101))))))) g104 hS) ?_)
                    rintro _ w15 ⟨μ13,rfl,le105,hS⟩
                    refine pu (dt (q100 p8)) ?_
                    refine wl (s_assign (et (k100 d8)) (dt p4) ?_)
                    refine wnil ?_
                    refine xn ?_
                    refine cret ?_
                    refine xr ?_
                    obtain rfl:=oI h
                    refine ret1 rfl d4 ?_
                    exact ⟨_,rfl,(le14.t (le18.t (le22.t (le26.t (le89.t (le95.t (le101.t le105))))))),hS⟩
                  · replace h:=iF h102 h
                    refine cskip ?_
                    refine xn ?_
                    refine cseq ?_
                    refine cseq ?_
                    refine ccutE (rg 109 11) (by decide) (fun m w=>∃ (μx:M) (b106:Bool),m=(yK50 (yK50 (yK9 (yO10 109 (yO1 119 (.i (.bool b106)::[]))))))∧syn_def_j6 r12 b106=some r∧Le μ12 μx∧Sq μx w0 w (.blk b1 76 [.int .i64 r12.2]::rsF)) (by rintro _ _ ⟨_,_,rfl,_⟩; rfl) ?_ ?_
                    · refine creg ?_
                      refine wl (s_move (et d1) (dt (q100 p9)) ?_)
                      refine wl (s_nilck (et (k100 d9)) (dt (q100 (q10 p0))) ?_)
                      refine wl (s_fa fa36_4 (et (k100 (k10 d0))) rfl (dt (q100 (q10 p1))) ?_)
                      refine wl (s_load ti3 (et (k100 (k10 d1))) ((m11 _ ((le14.t (le18.t (le22.t (le26.t (le89.t (le95.t le101)))))) _ hS.a)).one d6) (dt (q100 (q10 p2))) ?_)
                      refine wl (s_lss (et (k100 (k10 d2))) ec (dt (q100 (q10 p3))) ?_)
                      refine wl (s_move (et (k100 (k10 d3))) (dt (q100 (q10 p4))) ?_)
                      refine wspd (k100 (k10 d4)) (q100 (q10 p4)) (q100 (q10 p4)) (fun h107=>?_) (fun h107=>?_)
                      · replace h:=iT h107 h
                        refine wn rfl (k100 (k10 d4)) rfl (dt (q100 (q10 p5))) ?_
                        refine wn rfl (k100 (k10 d4)) rfl (dt (q100 (q10 p6))) ?_
                        refine wn rfl (k100 (k10 d4)) rfl (dt (q100 (q10 p7))) ?_
                        refine wn rfl (k100 (k10 d4)) rfl (dt (q100 (q10 p8))) ?_
                        refine wn rfl (k100 (k10 d4)) rfl (dt (q100 (q10 p9))) ?_
                        refine wl (s_pickt (et (k100 (k10 d4))) ec (dt (q100 (q20 p0))) ?_)
                        refine wnil ?_
                        refine xl ?_
                        exact ⟨_,_,rfl,(aK50 (aK50 (aK9 (aO10 (aO1 (aI aZ)))))),_,true,rfl,h,Le.r,hS⟩
                      · replace h:=iF h107 h
                        refine wy rfl (k100 (k10 d4)) (s_move (et d1) (dt (q100 (q10 p5))) ?_)
                        refine wy rfl (k100 (k10 d4)) (s_nilck (et (k100 (k10 d5))) (dt (q100 (q10 p6))) ?_)
                        refine wy rfl (k100 (k10 d4)) (s_fa fa36_4 (et (k100 (k10 d6))) rfl (dt (q100 (q10 p7))) ?_)
                        refine wy rfl (k100 (k10 d4)) (s_load ti3 (et (k100 (k10 d7))) ((m11 _ ((le14.t (le18.t (le22.t (le26.t (le89.t (le95.t le101)))))) _ hS.a)).one d6) (dt (q100 (q10 p8))) ?_)
                        refine wy rfl (k100 (k10 d4)) (s_gtr (et (k100 (k10 d8))) ec (dt (q100 (q10 p9))) ?_)
                        refine wl (s_pickf (et (k100 (k10 d4))) (et (k100 (k10 d9))) (dt (q100 (q20 p0))) ?_)
                        refine wnil ?_
                        refine xl ?_
                        exact ⟨_,_,rfl,(aK50 (aK50 (aK9 (aO10 (aO1 (aI aZ)))))),_,(decide ((20:Int)<p_2.Cap)),rfl,h,Le.r,hS⟩
                    · rintro _ t w16 ⟨μ14,b106,rfl,h,le108,hS⟩
                      unfold syn_def_j6 at h
                      refine nrm (mK50 (mK50 (mK9 (mO10 (mO1 (mi mz)))))) ?_
                      refine xn ?_
                      refine cifb (et (k100 (k20 d0))) (fun h109=>?_) (fun h109=>?_)
                      · replace h:=iT h109 h
                        refine cseq ?_
                        refine creg ?_
                        refine wl (s_assign ec (dt p4) ?_)
                        refine wnil ?_
                        refine xn ?_
                        refine cret ?_
                        refine xr ?_
                        obtain rfl:=oI h
                        refine ret1 rfl d4 ?_
                        exact ⟨_,rfl,(le14.t (le18.t (le22.t (le26.t (le89.t (le95.t (le101.t le108))))))),hS⟩
                      · replace h:=iF h109 h
                        refine cskip ?_
                        refine xn ?_
                        refine cseq ?_
                        refine creg ?_
                        refine wl (s_assign ec (dt p4) ?_)
                        refine wnil ?_
                        refine xn ?_
                        refine cret ?_
                        obtain rfl:=oI h
                        refine ret1 rfl d4 ?_
                        exact ⟨_,rfl,(le14.t (le18.t (le22.t (le26.t (le89.t (le95.t (le101.t le108))))))),hS⟩
theorem syn_wrong_w {fu:Nat} {μ0:M} {w0 w:World} {rsF:List Res} (hg:Le Gm μ0) {p_1:List TDef} {a1:Option Addr} {c2:Nat} {r:TFault} (m3:Sl μ0 a1 c2 p_1) (h:syn_wrong fu p_1=some r) (hS:Sq μ0 w0 w (rsF)):CallsV Tryd.prog 12 [.slice a1 p_1.length c2] w (fun v w'=>∃ (μ':M) ,v=.agg ⟨[.int .i64 r.Err,.int .i64 r.At]⟩∧Le μ0 μ'∧Sq μ' w0 w' (rsF)):=by
  unfold syn_wrong at h
  refine enter Tryd.func12 rfl (frm:=[_,_,_,_,_,_,_,_,_,_,_,_,_,_,_,_,_,_,_,_,_,_,_,_,_,_,_,_,_]) rfl ?_
  refine cseq ?_
  refine creg ?_
  refine wl (s_alloc ti26 hS ?_); clear hS; intro b4 w1 hb5 hS; refine pu (dt p2) ?_
  refine wnil ?_
  refine xn ?_
  refine cseq ?_
  refine cseq ?_
  refine creg ?_
  refine wl (s_move (et d0) (dt p6) ?_)
  refine wl (s_lensl Tryd.underlying23 (et d6) (dt p7) ?_)
  refine wl (s_gtr (et d7) ec (dt p8) ?_)
  refine wnil ?_
  refine xn ?_
  refine cifd (et d8) (fun h6=>?_) (fun h6=>?_)
  · replace h:=iT h6 h
    refine cseq ?_
    refine creg ?_
    refine wl (s_build ti26 pl26 (Fl.o rfl ec rfl rfl p0 Fl.z) (dt p9) ?_)
    refine wl (s_storeA ti26 (et d2) (et d9) rfl rfl hS d0 rfl p0 dn ?_)
    clear hS; intro w2 hS
    refine wnil ?_
    refine xn ?_
    refine cret ?_
    refine xr ?_
    obtain rfl:=oI h
    refine retN rfl (RVs.s (.a d2 ti26 (hS.blk d0).cells rfl) RVs.z) ?_
    replace hS:=hS.drop Rm.z
    exact ⟨_,rfl,Le.r,hS⟩
  · replace h:=iF h6 h
    refine cskip ?_
    refine xn ?_
    refine cseq ?_
    refine creg ?_
    refine wl (s_build ti76 pl76 Fl.z (dt (q10 p0)) ?_)
    refine wl (s_box (et (k10 d0)) rfl hS ?_); clear hS; intro b7 w3 hb8 hS; refine pu (dt (q10 p1)) ?_
    refine wl (s_assign (et (k10 d1)) (dt p3) ?_)
    refine wnil ?_
    refine xn ?_
    refine cseq ?_
    refine cseq ?_
    refine creg ?_
    refine wl (s_move (et d0) (dt (q10 p2)) ?_)
    refine wl (s_lensl Tryd.underlying23 (et (k10 d2)) (dt (q10 p3)) ?_)
    refine wl (s_move ec (dt (q10 p4)) ?_)
    refine wnil ?_
    refine xn ?_
    refine cblock ?_
    replace hS:=hS.bg (Bg.s Bg.z)
    refine cloopE (rg 4 2++rg 15 13) (by decide) (fun n m w=>∃ (μx:M) (i28:Int) (i29:Int),m=(yK4 (yO2 4 (yK8 (.i (.int .i64 i28)::(yO10 15 (yO3 25 []))))))∧syn_wrong_l1 fu p_1 n i28 i29=some r∧Le μ0 μx∧Sq μx w0 w (.blk b4 26 [.int .i64 0,.int .i64 0]::.blk b7 76 [.int .i64 i29]::rsF)) (by rintro _ _ _ ⟨_,_,_,rfl,_⟩; rfl) _ _ (aK4 (aO2 (aK8 (aI (aO10 (aO3 aZ)))))) ⟨_,0,0,rfl,h,Le.r,hS⟩ ?_
    rintro n_1 _ t w4 ⟨μ1,i28,i29,rfl,h,le49,hS⟩
    cases n_1 with
    | zero=>cases h
    | succ n_1 =>
    unfold syn_wrong_l1 at h
    refine cnrm (mK4 (mO2 (mK8 (mi (mO10 (mO3 mz)))))) ?_
    refine cseq ?_
    refine creg ?_
    refine wl (s_lss (et (k10 d4)) (et (k10 d3)) (dt (q10 p5)) ?_)
    refine wnil ?_
    refine xn ?_
    refine cseq ?_
    refine cifd (et (k10 d5)) (fun h50=>?_) (fun h50=>?_)
    · replace h:=iT h50 h
      refine cskip ?_
      refine xn ?_
      refine cseq ?_
      refine cblock ?_
      refine cseq ?_
      refine creg ?_
      refine wl (s_move (et (k10 d4)) (dt (q10 p6)) ?_)
      refine wl (s_assign (et (k10 d6)) (dt p4) ?_)
      refine wnil ?_
      refine xn ?_
      refine cseq ?_
      refine creg ?_
      refine wl (s_move (et d3) (dt (q10 p7)) ?_)
      refine wl (s_move (et d0) (dt (q10 p8)) ?_)
      refine wl (s_move (et d4) (dt (q10 p9)) ?_)
      replace h:=bI h; obtain ⟨x51,g52,h⟩:=h
      obtain ⟨b53,o54,cs55,e56,f57,m58⟩:=SlR.elem (m3.up le49) g52
      obtain ⟨a59,c60,a62,c63,rfl,m61,m64⟩:=m58
      refine wl (s_iax Tryd.underlying23 ti36 (et (k10 d8)) (et (k10 d9)) e56 (dt (q20 p0)) ?_)
      replace h:=bI h; obtain ⟨r65,g66,h⟩:=h
      replace hS:=hS.bg (Bg.s Bg.z)
      refine wl (s_callv isfn28 ef (e1 (et (k10 d7)) (e1 (et (k20 d0)) e0)) (syn_def_w (hg.t le49) m61 m64 f57 g66 hS) ?_)
      rintro _ w5 ⟨μ2,rfl,le67,hS⟩
      refine pu (dt (q20 p1)) ?_
      refine wl (s_assign (et (k20 d1)) (dt p5) ?_)
      refine wnil ?_
      refine xn ?_
      refine cseq ?_
      refine creg ?_
      refine wl (s_move (et d5) (dt (q20 p2)) ?_)
      refine wl (s_nei (et (k20 d2)) ec (dt (q20 p3)) ?_)
      refine wnil ?_
      refine xn ?_
      refine cifd (et (k20 d3)) (fun h68=>?_) (fun h68=>?_)
      · replace h:=iT h68 h
        refine cseq ?_
        refine creg ?_
        refine wl (s_move (et d5) (dt (q20 p4)) ?_)
        refine wl (s_move (et d4) (dt (q20 p5)) ?_)
        refine wl (s_build ti26 pl26 (Fl.o rfl (et (k20 d4)) rfl rfl p0 (Fl.o rfl (et (k20 d5)) rfl rfl p1 Fl.z)) (dt (q20 p6)) ?_)
        refine wl (s_storeA ti26 (et d2) (et (k20 d6)) rfl rfl hS d1 rfl p1 dn ?_)
        clear hS; intro w6 hS
        refine wnil ?_
        refine xn ?_
        refine cret ?_
        refine (fun h=>br (xr (xr (br (xr h))))) ?_
        obtain rfl:=oI h
        refine retN rfl (RVs.s (.a d2 ti26 (hS.blk d1).cells rfl) RVs.z) ?_
        replace hS:=hS.drop Rm.z
        replace hS:=hS.drop Rm.z
        exact ⟨_,rfl,(le49.t le67),hS⟩
      · replace h:=iF h68 h
        refine cskip ?_
        refine (fun h=>bn (xn h)) ?_
        refine creg ?_
        replace h:=bI h; obtain ⟨i69,g70,h⟩:=h
        refine wl (s_addc (et (k10 d4)) ec g70 (dt (q20 p7)) ?_)
        refine wl (s_move (et (k20 d7)) (dt (q10 p4)) ?_)
        refine wnil ?_
        refine xl ?_
        replace hS:=hS.bg (Bg.s Bg.z)
        exact ⟨n_1,_,_,rfl,(aK4 (aO2 (aK8 (aI (aO10 (aO3 aZ)))))),⟨_,i69,r65.2,rfl,h,(le49.t le67),hS⟩,Nat.lt_succ_self _⟩
    · replace h:=iF h50 h
      refine cexit ?_
      refine (fun h=>xe (xe (bh h))) ?_
      refine xn ?_
      refine cseq ?_
      refine creg ?_
      refine wl (s_build ti26 pl26 Fl.z (dt (q20 p8)) ?_)
      refine wl (s_storeA ti26 (et d2) (et (k20 d8)) rfl rfl hS d0 rfl p0 dn ?_)
      clear hS; intro w7 hS
      refine wnil ?_
      refine xn ?_
      refine cret ?_
      obtain rfl:=oI h
      refine retN rfl (RVs.s (.a d2 ti26 (hS.blk d0).cells rfl) RVs.z) ?_
      replace hS:=hS.drop Rm.z
      replace hS:=hS.drop Rm.z
      exact ⟨_,rfl,le49,hS⟩
end Go.Proofs.YtbdiobhgejmgoaaDoor
set_option maxRecDepth 100000
set_option maxHeartbeats 20000000
namespace Go.Proofs.YtbdiobhgejmgoaaDoor
open Go.Wk Go.Xt Go.Y Go.RowKit
def Voops (f:TFault):Value:=.iface 46 (.agg ⟨[.int .i64 f.Err,.int .i64 f.At]⟩)
section
variable {P:Program} {Q:Exit→Act→World→Prop} {K:List Value→List Deferred→World→Prop} {fr fr':List Value} {ds:List Deferred} {w:World}
variable {dst:Option Tmp} {ty:TypeId} {pos:String} {after:Array Edge} {g:Option (Nat×Bool)}
theorem s_panic {x:Operand} {t:TypeId} {v:Value} (hx:Ev fr x (.iface t v)) (h:Q (.panic [{ v:=.iface t v,recovered:=false }]) (F fr ds) w):OW P (Oper.mk dst (.panic x) ty pos after g) fr ds w K Q:=by
  constructor
  intro K2 hK
  have e:(execOp (F fr ds).eval (Oper.mk dst (.panic x) ty pos after g)).run P w=.halt (.panic (.iface t v)) w:=by
    simp [execOp,hx ds]; rfl
  unfold Oper.wp
  rw [e,Oper.upon_panic]
  exact h
theorem s_mkifv {x:Operand} {t:TypeId} {v:Value} (hc:P.concrete t=true) (hx:Ev fr x v) (hp:Dt fr dst (.iface t v) fr') (h:K fr' ds w):OW P (Oper.mk dst (.makeInterface t x) ty pos after g) fr ds w K Q:=by
  refine op_v (v:=.iface t v) (w':=w) ?_ hp h
  have:=run_makeInterface (P:=P) (w:=w) t v hc
  simp [execOp,hx ds,this]
theorem s_tas {x:Operand} {xt t:TypeId} {v:Value} {d:TypeDesc} (hu:P.underlying t=some d) (hd:(match d with | .interface _=>false | _=>true)=true) (hx:Ev fr x (.iface t v)) (hp:Dt fr dst (.tuple #[v,.bool true]) fr') (h:K fr' ds w):OW P (Oper.mk dst (.typeAssert x xt t true) ty pos after g) fr ds w K Q:=by
  refine op_v (v:=.tuple #[v,.bool true]) (w':=w) ?_ hp h
  have e1:=hx ds
  have e2:(Instr.typeAssert (.iface t v) xt t true).run P w=.ok (.tuple #[v,.bool true]) w:=by
    unfold Instr.typeAssert
    simp only [Sem.run_bind,run_underlying hu,Result.andThen_ok]
    cases d <;> first | (simp at hd; done) | simp
  simp [execOp,e1,e2]
end
theorem p_fail_w {μ0:M} {w0 w:World} {rsF:List Res} {α:Type} {R:α→Value→World→Prop} {b1:Nat} {v0 v1:Value} {i e a:Int} (hS:Sq μ0 w0 w (.blk b1 49 [v0,v1,.int .i64 i]::rsF)) :
    CallsT Tryd.prog 9 [.pointer (some ⟨b1,0,none⟩),.int .i64 e,.int .i64 a] w Voops (.error ⟨e,a⟩:Except TFault α) R (EP μ0 w0 b1 49 rsF):=by
  refine enterT Tryd.func9 rfl (frm:=[_,_,_,_,_,_,_,_,_,_,_]) rfl ?_
  refine creg ?_
  refine wl (s_move (et d1) (dt p6) ?_)
  refine wl (s_move (et d2) (dt p7) ?_)
  refine wl (s_build ti26 pl26 (Fl.o rfl (et d6) rfl rfl p0 (Fl.o rfl (et d7) rfl rfl p1 Fl.z)) (dt p8) ?_)
  refine wl (s_build ti46 pl46 (Fl.n rfl (et d8) rfl rfl (.s p0 (of_decide_eq_true rfl) (.s p1 (of_decide_eq_true rfl) .z)) Fl.z) (dt p9) ?_)
  refine wl (s_mkifv (by kernel_rfl) (et d9) (dt (q10 p0)) ?_)
  refine wl (s_panic (et (k10 d0)) ?_)
  exact thN ⟨_,v0,v1,i,Le.r,hS⟩
theorem p_rec_ret {μ0:M} {w0 w:World} {rsF:List Res} {f:TFault} {c2 c3:Nat} {x a b:Value} (hS:Sq μ0 w0 w (.blk c2 23 [x]::.blk c3 26 [a,b]::rsF)) :
    CallsD Tryd.prog 8 #[.pointer (some ⟨c2,0,none⟩),.pointer (some ⟨c3,0,none⟩)] (.panicking [{ v:=Voops f,recovered:=false }]) w fun e u' w'=>u'=.panicking [{ v:=Voops f,recovered:=true }]∧e=.returned (.tuple #[])∧Sq μ0 w0 w' (.blk c2 23 [.slice none 0 0]::.blk c3 26 [.int .i64 f.Err,.int .i64 f.At]::rsF):=by
  refine callsD_of_wpS Tryd.func8 rfl fun c₀ cs hu=>?_
  apply wpS_seq
  apply wpS_region
  simp [wpOpsS,go_sem,recoverD,hu,Tryd.ntmps8,Exit.thenS]
  refine wpS_of_wp (CW.out (fr:=[.pointer (some ⟨c2,0,none⟩),.pointer (some ⟨c3,0,none⟩),undef,undef,undef,Voops f,undef,undef,undef,undef,undef,undef,undef]) (ds:=[]) ?_)
  refine cblock ?_
  refine cseq ?_
  refine creg ?_
  refine wl (s_eqni Tryd.underlying20 (et d5) (.inr ⟨⟨_,_,rfl⟩,rfl⟩) (dt p7) ?_)
  refine wnil ?_
  refine xn ?_
  refine ciff (et d7) ?_
  refine cseq ?_
  refine creg ?_
  refine wl (s_tas Tryd.underlying46 rfl (et d5) (dt p8) ?_)
  refine wl (s_extr (et d8) d1 (dt p9) ?_)
  refine wl (s_extr (et d8) d0 (dt (q10 p0)) ?_)
  refine wnil ?_
  refine xn ?_
  refine cift (et d9) ?_
  refine cseq ?_
  refine creg ?_
  refine wl (s_alloc ti46 hS ?_); clear hS; intro b4 w1 hb hS; refine pu (dt p3) ?_
  refine wl (s_storeA ti46 (et d3) (et (k10 d0)) rfl rfl hS d0 rfl p0 dn ?_)
  clear hS; intro w2 hS
  refine wnil ?_
  refine xn ?_
  refine cdraw (by kernel_rfl) rfl fun w3 hh_ ho_ ht_ hu_=>?_
  replace hS:=hS.drew hh_ ho_ ht_ hu_
  refine sf_start ?_
  refine sf_pu (i:=0) [0,1,3] (fun _ _ _ _ _ h=>h) rfl rfl rfl (u_fa fa46_0 (et d3) rfl) (q10 p1) ?_
  refine sf_rd (i:=1) [1,3] (fun _ _ _ _ _ h=>h) rfl rfl rfl (u_loads ti26 (et (k10 d1)) (hS.blk d0).cells rfl) (q10 p2) ?_
  refine sf1 rfl rfl rfl rfl (wn0 rfl) (s_store1 ti23 (et d0) ec rfl hS d1 p0 rfl p1 dn ?_)
  clear hS; intro w4 hS
  refine ⟨(Mons.s (u_loads ti26 (et (k10 d1)) (hS.blk d0).cells rfl) Mons.z),?_⟩
  refine sf1 rfl rfl rfl rfl (wn0 rfl) (s_storeA ti26 (et d1) (et (k10 d2)) rfl rfl hS d2 rfl p2 dn ?_)
  clear hS; intro w5 hS
  refine ⟨Mons.z,?_⟩
  refine sf_nil ?_
  refine bn ?_
  have hS:=hS.drop Rm.z
  cases c₀
  simp_all [F,bodyPostS,results,Tryd.results8]
theorem p_rec_w {μ0:M} {w0 w:World} {rsF:List Res} {f:TFault} {c2 c3:Nat} {x a b:Value} (hS:Sq μ0 w0 w (.blk c2 23 [x]::.blk c3 26 [a,b]::rsF)) :
    CallsRec Tryd.prog 8 ([]++[.pointer (some ⟨c2,0,none⟩),.pointer (some ⟨c3,0,none⟩)]) [{ v:=Voops f,recovered:=false }] w (fun w'=>Sq μ0 w0 w' (.blk c2 23 [.slice none 0 0]::.blk c3 26 [.int .i64 f.Err,.int .i64 f.At]::rsF)) :=
  ⟨(p_rec_ret hS).mono fun e u' w' he=>by
    obtain ⟨rfl,rfl,h⟩:=he
    exact ⟨rfl,h⟩⟩
theorem p_outE {μ0:M} {w0 w:World} {rsF:List Res} {b1 b2:Nat} {v0 v1:Value} {i:Int} (hS:Sq μ0 w0 w (.blk b1 47 [.pointer (some ⟨b2,0,none⟩)]::.blk b2 49 [v0,v1,.int .i64 i]::rsF)) :
    CallsDV Tryd.prog 49 ([]++[.pointer (some ⟨b1,0,none⟩)]) w (fun _ w'=>∃ j:Int,Sq μ0 w0 w' (.blk b1 47 [.pointer (some ⟨b2,0,none⟩)]::.blk b2 49 [v0,v1,.int .i64 j]::rsF)):=by
  refine enterDD Tryd.func49 rfl (frm:=[_,_,_,_,_,_,_,_]) rfl ?_
  refine creg ?_
  refine wl (s_load ti47 (et d0) ((hS.blk d0).cell d0) (dt p1) ?_)
  refine wl (s_nilck (et d1) (dt p2) ?_)
  refine wl (s_fa fa49_2 (et d2) rfl (dt p3) ?_)
  refine wl (s_load ti3 (et d3) ((hS.blk d1).cell d2) (dt p4) ?_)
  refine wl (s_sub (et d4) ec rfl (dt p5) ?_)
  refine wl (s_nilck (et d1) (dt p6) ?_)
  refine wl (s_fa fa49_2 (et d6) rfl (dt p7) ?_)
  refine wl (s_store1 ti3 (et d7) (et d5) rfl hS d1 p2 rfl p1 dn ?_)
  clear hS; intro w1 hS
  refine wnil ?_
  refine end0 rfl ?_
  exact ⟨_,hS⟩
end Go.Proofs.YtbdiobhgejmgoaaDoor
set_option maxRecDepth 100000
set_option maxHeartbeats 20000000
namespace Go.Proofs.YtbdiobhgejmgoaaDoor
open Go.Wk Go.Xt Go.Y
theorem p_at_w {μ0:M} {w0 w:World} {rsF:List Res} (hg:Le Gm μ0) {b1:Nat} {left_2:List TToken} {a3:Option Addr} {c4:Nat} {end_6:Int} {deep_7:Int} {r:Int} (m5:Sl μ0 a3 c4 left_2) (h:p_at left_2 end_6 deep_7=some r) (hS:Sq μ0 w0 w (.blk b1 49 [.slice a3 left_2.length c4,.int .i64 end_6,.int .i64 deep_7]::rsF)):CallsV Tryd.prog 10 [.pointer (some ⟨b1,0,none⟩)] w (fun v w'=>∃ (μ':M) ,v=.int .i64 r∧Le μ0 μ'∧Sq μ' w0 w' (.blk b1 49 [.slice a3 left_2.length c4,.int .i64 end_6,.int .i64 deep_7]::rsF)):=by
  unfold p_at at h
  refine enter Tryd.func10 rfl (frm:=[_,_,_,_,_,_,_,_,_,_,_,_,_,_,_,_,_,_,_,_]) rfl ?_
  refine cseq ?_
  refine creg ?_
  refine wl (s_assign ec (dt p2) ?_)
  refine wnil ?_
  refine xn ?_
  refine cseq ?_
  refine cseq ?_
  refine creg ?_
  refine wl (s_move (et d0) (dt p3) ?_)
  refine wl (s_nilck (et d3) (dt p4) ?_)
  refine wl (s_fa fa49_0 (et d4) rfl (dt p5) ?_)
  refine wl (s_load ti42 (et d5) ((hS.blk d0).cell d0) (dt p6) ?_)
  refine wl (s_lensl Tryd.underlying42 (et d6) (dt p7) ?_)
  refine wl (s_eqi (et d7) ec (dt p8) ?_)
  refine wnil ?_
  refine xn ?_
  refine cifd (et d8) (fun h8=>?_) (fun h8=>?_)
  · replace h:=iT h8 h
    refine cseq ?_
    refine creg ?_
    refine wl (s_move (et d0) (dt p9) ?_)
    refine wl (s_nilck (et d9) (dt (q10 p0)) ?_)
    refine wl (s_fa fa49_1 (et (k10 d0)) rfl (dt (q10 p1)) ?_)
    refine wl (s_load ti3 (et (k10 d1)) ((hS.blk d0).cell d1) (dt (q10 p2)) ?_)
    refine wl (s_assign (et (k10 d2)) (dt p2) ?_)
    refine wnil ?_
    refine xn ?_
    refine cret ?_
    refine xr ?_
    obtain rfl:=oI h
    refine ret1 rfl d2 ?_
    exact ⟨_,rfl,Le.r,hS⟩
  · replace h:=iF h8 h
    refine cskip ?_
    refine xn ?_
    refine cseq ?_
    refine creg ?_
    refine wl (s_move (et d0) (dt (q10 p3)) ?_)
    refine wl (s_nilck (et (k10 d3)) (dt (q10 p4)) ?_)
    refine wl (s_fa fa49_0 (et (k10 d4)) rfl (dt (q10 p5)) ?_)
    refine wl (s_load ti42 (et (k10 d5)) ((hS.blk d0).cell d0) (dt (q10 p6)) ?_)
    replace h:=bI h; obtain ⟨x9,g10,h⟩:=h
    obtain ⟨b11,o12,cs13,e14,f15,m16⟩:=SlR.elem m5 g10
    obtain rfl:=m16
    refine wl (s_iax Tryd.underlying42 ti59 (et (k10 d6)) ec e14 (dt (q10 p7)) ?_)
    refine wl (s_fa fa59_3 (et (k10 d7)) rfl (dt (q10 p8)) ?_)
    refine wl (s_load ti3 (et (k10 d8)) ((f15 _ hS.a).one d3) (dt (q10 p9)) ?_)
    refine wl (s_assign (et (k10 d9)) (dt p2) ?_)
    refine wnil ?_
    refine xn ?_
    refine cret ?_
    obtain rfl:=oI h
    refine ret1 rfl d2 ?_
    exact ⟨_,rfl,Le.r,hS⟩
theorem p_sees_w {μ0:M} {w0 w:World} {rsF:List Res} (hg:Le Gm μ0) {b1:Nat} {left_2:List TToken} {a3:Option Addr} {c4:Nat} {end_6:Int} {deep_7:Int} {p_2:List UInt8} {r:Bool} (m5:Sl μ0 a3 c4 left_2) (h:p_sees left_2 end_6 deep_7 p_2=some r) (hS:Sq μ0 w0 w (.blk b1 49 [.slice a3 left_2.length c4,.int .i64 end_6,.int .i64 deep_7]::rsF)):CallsV Tryd.prog 34 [.pointer (some ⟨b1,0,none⟩),S p_2] w (fun v w'=>∃ (μ':M) ,v=.bool r∧Le μ0 μ'∧Sq μ' w0 w' (.blk b1 49 [.slice a3 left_2.length c4,.int .i64 end_6,.int .i64 deep_7]::rsF)):=by
  unfold p_sees at h
  refine enter Tryd.func34 rfl (frm:=[_,_,_,_,_,_,_,_,_,_,_,_,_,_,_,_,_,_,_,_,_,_]) rfl ?_
  refine cseq ?_
  refine creg ?_
  refine wl (s_assign ec (dt p4) ?_)
  refine wnil ?_
  refine xn ?_
  refine cseq ?_
  refine creg ?_
  refine wl (s_move (et d0) (dt p5) ?_)
  refine wl (s_nilck (et d5) (dt p6) ?_)
  refine wl (s_fa fa49_0 (et d6) rfl (dt p7) ?_)
  refine wl (s_load ti42 (et d7) ((hS.blk d0).cell d0) (dt p8) ?_)
  refine wl (s_lensl Tryd.underlying42 (et d8) (dt p9) ?_)
  refine wl (s_gtr (et d9) ec (dt (q10 p0)) ?_)
  refine wl (s_move (et (k10 d0)) (dt (q10 p1)) ?_)
  refine wspd (k10 d1) (q10 p1) (q10 p1) (fun h8=>?_) (fun h8=>?_)
  · replace h:=iT h8 h
    refine wy rfl (k10 d1) (s_move (et d0) (dt (q10 p2)) ?_)
    refine wy rfl (k10 d1) (s_nilck (et (k10 d2)) (dt (q10 p3)) ?_)
    refine wy rfl (k10 d1) (s_fa fa49_0 (et (k10 d3)) rfl (dt (q10 p4)) ?_)
    refine wy rfl (k10 d1) (s_load ti42 (et (k10 d4)) ((hS.blk d0).cell d0) (dt (q10 p5)) ?_)
    replace h:=bI h; obtain ⟨x9,g10,h⟩:=h
    obtain ⟨b11,o12,cs13,e14,f15,m16⟩:=SlR.elem m5 g10
    obtain rfl:=m16
    refine wy rfl (k10 d1) (s_iax Tryd.underlying42 ti59 (et (k10 d5)) ec e14 (dt (q10 p6)) ?_)
    refine wy rfl (k10 d1) (s_fa fa59_1 (et (k10 d6)) rfl (dt (q10 p7)) ?_)
    refine wy rfl (k10 d1) (s_load ti9 (et (k10 d7)) ((f15 _ hS.a).one d1) (dt (q10 p8)) ?_)
    refine wy rfl (k10 d1) (s_move (et d1) (dt (q10 p9)) ?_)
    refine wy rfl (k10 d1) (s_eqs (et (k10 d8)) (et (k10 d9)) (dt (q20 p0)) ?_)
    refine wl (s_pickt (et (k10 d1)) (et (k20 d0)) (dt (q20 p1)) ?_)
    refine wl (s_assign (et (k20 d1)) (dt p4) ?_)
    refine wnil ?_
    refine xn ?_
    refine cret ?_
    obtain rfl:=oI h
    refine ret1 rfl d4 ?_
    exact ⟨_,rfl,Le.r,hS⟩
  · replace h:=iF h8 h
    refine wn rfl (k10 d1) rfl (dt (q10 p2)) ?_
    refine wn rfl (k10 d1) rfl (dt (q10 p3)) ?_
    refine wn rfl (k10 d1) rfl (dt (q10 p4)) ?_
    refine wn rfl (k10 d1) rfl (dt (q10 p5)) ?_
    refine wn rfl (k10 d1) rfl (dt (q10 p6)) ?_
    refine wn rfl (k10 d1) rfl (dt (q10 p7)) ?_
    refine wn rfl (k10 d1) rfl (dt (q10 p8)) ?_
    refine wn rfl (k10 d1) rfl (dt (q10 p9)) ?_
    refine wn rfl (k10 d1) rfl (dt (q20 p0)) ?_
    refine wl (s_pickf (et (k10 d1)) ec (dt (q20 p1)) ?_)
    refine wl (s_assign (et (k20 d1)) (dt p4) ?_)
    refine wnil ?_
    refine xn ?_
    refine cret ?_
    obtain rfl:=oI h
    refine ret1 rfl d4 ?_
    exact ⟨_,rfl,Le.r,hS⟩
theorem p_is_w {μ0:M} {w0 w:World} {rsF:List Res} (hg:Le Gm μ0) {b1:Nat} {left_2:List TToken} {a3:Option Addr} {c4:Nat} {end_6:Int} {deep_7:Int} {p_2:List UInt8} {r:Bool×List TToken×Int×Int} (m5:Sl μ0 a3 c4 left_2) (h:p_is left_2 end_6 deep_7 p_2=some r) (hS:Sq μ0 w0 w (.blk b1 49 [.slice a3 left_2.length c4,.int .i64 end_6,.int .i64 deep_7]::rsF)):CallsV Tryd.prog 21 [.pointer (some ⟨b1,0,none⟩),S p_2] w (fun v w'=>∃ (μ':M) (a8:Option Addr) (c9:Nat),v=.bool r.1∧Le μ0 μ'∧Sq μ' w0 w' (.blk b1 49 [.slice a8 r.2.1.length c9,.int .i64 r.2.2.1,.int .i64 r.2.2.2]::rsF)∧Sl μ' a8 c9 r.2.1):=by
  unfold p_is at h
  refine enter Tryd.func21 rfl (frm:=[_,_,_,_,_,_,_,_,_,_,_,_,_,_,_,_,_]) rfl ?_
  refine cseq ?_
  refine creg ?_
  refine wl (s_assign ec (dt p4) ?_)
  refine wnil ?_
  refine xn ?_
  refine cseq ?_
  refine cseq ?_
  refine creg ?_
  refine wl (s_move (et d0) (dt p5) ?_)
  refine wl (s_move (et d1) (dt p6) ?_)
  replace h:=bI h; obtain ⟨r11,g12,h⟩:=h
  refine wl (s_callv isfn34 ef (e1 (et d5) (e1 (et d6) e0)) (p_sees_w hg m5 g12 hS) ?_)
  rintro _ w1 ⟨μ1,rfl,le13,hS⟩
  refine pu (dt p7) ?_
  refine wl (s_not (et d7) (dt p8) ?_)
  refine wnil ?_
  refine xn ?_
  refine cifnb (et d8) (fun h14=>?_) (fun h14=>?_)
  · replace h:=iF h14 h
    refine cseq ?_
    refine creg ?_
    refine wl (s_assign ec (dt p4) ?_)
    refine wnil ?_
    refine xn ?_
    refine cret ?_
    refine xr ?_
    obtain rfl:=oI h
    refine ret1 rfl d4 ?_
    exact ⟨_,a3,c4,rfl,le13,hS,(m5.up le13)⟩
  · replace h:=iT h14 h
    refine cskip ?_
    refine xn ?_
    refine cseq ?_
    refine creg ?_
    refine wl (s_move (et d0) (dt p9) ?_)
    refine wl (s_move (et d0) (dt (q10 p0)) ?_)
    refine wl (s_nilck (et (k10 d0)) (dt (q10 p1)) ?_)
    refine wl (s_fa fa49_0 (et (k10 d1)) rfl (dt (q10 p2)) ?_)
    refine wl (s_load ti42 (et (k10 d2)) ((hS.blk d0).cell d0) (dt (q10 p3)) ?_)
    replace h:=bI h; obtain ⟨l15,g16,h⟩:=h
    obtain ⟨a17,c18,e19,m20⟩:=Sl.slc (i:=some 1) (j:=none) (m5.up le13) g16
    refine wl (s_slc Tryd.underlying42 ti59 (et (k10 d3)) (.s ec) .n e19 (dt (q10 p4)) ?_)
    refine wl (s_nilck (et d9) (dt (q10 p5)) ?_)
    refine wl (s_fa fa49_0 (et (k10 d5)) rfl (dt (q10 p6)) ?_)
    refine wl (s_store1 ti42 (et (k10 d6)) (et (k10 d4)) rfl hS d0 p0 rfl p0 dn ?_)
    clear hS; intro w2 hS
    refine wnil ?_
    refine xn ?_
    refine cseq ?_
    refine creg ?_
    refine wl (s_assign ec (dt p4) ?_)
    refine wnil ?_
    refine xn ?_
    refine cret ?_
    obtain rfl:=oI h
    refine ret1 rfl d4 ?_
    exact ⟨_,a17,c18,rfl,le13,hS,m20⟩
theorem p_need_w {μ0:M} {w0 w:World} {rsF:List Res} (hg:Le Gm μ0) {b1:Nat} {left_2:List TToken} {a3:Option Addr} {c4:Nat} {end_6:Int} {deep_7:Int} {p_2:List (List UInt8)} {a8:Option Addr} {c9:Nat} {r:Except TFault (List TToken×Int×Int)} (m5:Sl μ0 a3 c4 left_2) (m10:Sl μ0 a8 c9 p_2) (h:p_need left_2 end_6 deep_7 p_2=some r) (hS:Sq μ0 w0 w (.blk b1 49 [.slice a3 left_2.length c4,.int .i64 end_6,.int .i64 deep_7]::rsF)):CallsT Tryd.prog 25 [.pointer (some ⟨b1,0,none⟩),.slice a8 p_2.length c9] w Voops r (fun x v w'=>∃ (μ':M) (a11:Option Addr) (c12:Nat),v=.tuple ⟨[]⟩∧Le μ0 μ'∧Sq μ' w0 w' (.blk b1 49 [.slice a11 x.1.length c12,.int .i64 x.2.1,.int .i64 x.2.2]::rsF)∧Sl μ' a11 c12 x.1) (EP μ0 w0 b1 49 rsF):=by
  unfold p_need at h
  refine enterT Tryd.func25 rfl (frm:=[_,_,_,_,_,_,_,_,_,_,_,_,_,_,_,_,_,_,_,_,_]) rfl ?_
  refine cseq ?_
  refine creg ?_
  refine wl (s_move (et d1) (dt p6) ?_)
  refine wl (s_lensl Tryd.underlying81 (et d6) (dt p7) ?_)
  refine wl (s_move ec (dt p8) ?_)
  refine wnil ?_
  refine xn ?_
  refine cblock ?_
  refine cloopE ([5]++rg 9 12) (by decide) (fun n m w=>∃ (μx:M) (i33:Int) (l36:List TToken) (a34:Option Addr) (c35:Nat) (i38:Int) (i39:Int),m=(yK5 (yO1 5 (yK2 (.i (.int .i64 i33)::(yO10 9 (yO2 19 []))))))∧p_need_l1 p_2 n i33 l36 i38 i39=some r∧Le μ0 μx∧Sq μx w0 w (.blk b1 49 [.slice a34 l36.length c35,.int .i64 i38,.int .i64 i39]::rsF)∧Sl μx a34 c35 l36) (by rintro _ _ _ ⟨_,_,_,_,_,_,_,rfl,_⟩; rfl) _ _ (aK5 (aO1 (aK2 (aI (aO10 (aO2 aZ)))))) ⟨_,0,left_2,a3,c4,end_6,deep_7,rfl,h,Le.r,hS,m5⟩ ?_
  rintro n_1 _ t w1 ⟨μ1,i33,l36,a34,c35,i38,i39,rfl,h,le59,hS,m60⟩
  cases n_1 with
  | zero=>cases h
  | succ n_1 =>
  unfold p_need_l1 at h
  refine cnrm (mK5 (mO1 (mK2 (mi (mO10 (mO2 mz)))))) ?_
  refine cseq ?_
  refine creg ?_
  refine wl (s_lss (et d8) (et d7) (dt p9) ?_)
  refine wnil ?_
  refine xn ?_
  refine cseq ?_
  refine cifd (et d9) (fun h61=>?_) (fun h61=>?_)
  · replace h:=iT h61 h
    refine cskip ?_
    refine xn ?_
    refine cseq ?_
    refine cblock ?_
    refine cseq ?_
    refine creg ?_
    replace h:=bI h; obtain ⟨x62,g63,h⟩:=h
    obtain ⟨b64,o65,cs66,e67,f68,m69⟩:=SlR.elem (m10.up le59) g63
    obtain rfl:=m69
    refine wl (s_iax Tryd.underlying81 ti9 (et d6) (et d8) e67 (dt (q10 p0)) ?_)
    refine wl (s_load ti9 (et (k10 d0)) ((f68 _ hS.a).one d0) (dt (q10 p1)) ?_)
    refine wl (s_assign (et (k10 d1)) (dt p5) ?_)
    refine wnil ?_
    refine xn ?_
    refine cseq ?_
    refine creg ?_
    refine wl (s_move (et d0) (dt (q10 p2)) ?_)
    refine wl (s_move (et d5) (dt (q10 p3)) ?_)
    replace h:=bI h; obtain ⟨r70,g71,h⟩:=h
    refine wl (s_callv isfn21 ef (e1 (et (k10 d2)) (e1 (et (k10 d3)) e0)) (p_is_w (hg.t le59) m60 g71 hS) ?_)
    rintro _ w2 ⟨μ2,a73,c74,rfl,le72,hS,m75⟩
    refine pu (dt (q10 p4)) ?_
    refine wl (s_not (et (k10 d4)) (dt (q10 p5)) ?_)
    refine wnil ?_
    refine xn ?_
    refine cifnb (et (k10 d5)) (fun h76=>?_) (fun h76=>?_)
    · replace h:=iF h76 h
      refine creg ?_
      refine wl (s_move (et d0) (dt (q10 p6)) ?_)
      refine wl (s_move (et d0) (dt (q10 p7)) ?_)
      replace h:=bI h; obtain ⟨r77,g78,h⟩:=h
      refine wl (s_callv isfn10 ef (e1 (et (k10 d7)) e0) (p_at_w (hg.t (le59.t le72)) m75 g78 hS) ?_)
      rintro _ w3 ⟨μ3,rfl,le79,hS⟩
      refine pu (dt (q10 p8)) ?_
      obtain rfl:=oI h
      refine wl (s_callte isfn9 ef (e1 (et (k10 d6)) (e1 ec (e1 (et (k10 d8)) e0))) (p_fail_w (R:=fun (_:Unit) _ _=>True) hS) ?_)
      rintro w_ ⟨μ_,v0_,v1_,i_,le_,hS⟩
      exact thN (P:=Tryd.prog) (fn:=Tryd.f25) ⟨_,_,_,_,((le59.t (le72.t le79)).t le_),hS⟩
    · replace h:=iT h76 h
      refine cskip ?_
      refine (fun h=>bn (xn h)) ?_
      refine creg ?_
      replace h:=bI h; obtain ⟨i80,g81,h⟩:=h
      refine wl (s_addc (et d8) ec g81 (dt (q20 p0)) ?_)
      refine wl (s_move (et (k20 d0)) (dt p8) ?_)
      refine wnil ?_
      refine xl ?_
      exact ⟨n_1,_,_,rfl,(aK5 (aO1 (aK2 (aI (aO10 (aO2 aZ)))))),⟨_,i80,r70.2.1,a73,c74,r70.2.2.1,r70.2.2.2,rfl,h,(le59.t le72),hS,m75⟩,Nat.lt_succ_self _⟩
  · replace h:=iF h61 h
    refine cexit ?_
    refine (fun h=>xe (xe (bh h))) ?_
    obtain rfl:=oI h
    refine okTn ?_
    refine end0 rfl ?_
    exact ⟨_,a34,c35,rfl,le59,hS,m60⟩
theorem p_name_w {fu:Nat} {μ0:M} {w0 w:World} {rsF:List Res} (hg:Le Gm μ0) {b1:Nat} {left_2:List TToken} {a3:Option Addr} {c4:Nat} {end_6:Int} {deep_7:Int} {r:Except TFault (List UInt8×List TToken×Int×Int)} (m5:Sl μ0 a3 c4 left_2) (h:p_name fu left_2 end_6 deep_7=some r) (hS:Sq μ0 w0 w (.blk b1 49 [.slice a3 left_2.length c4,.int .i64 end_6,.int .i64 deep_7]::rsF)):CallsT Tryd.prog 22 [.pointer (some ⟨b1,0,none⟩)] w Voops r (fun x v w'=>∃ (μ':M) (a8:Option Addr) (c9:Nat),v=S x.1∧Le μ0 μ'∧Sq μ' w0 w' (.blk b1 49 [.slice a8 x.2.1.length c9,.int .i64 x.2.2.1,.int .i64 x.2.2.2]::rsF)∧Sl μ' a8 c9 x.2.1) (EP μ0 w0 b1 49 rsF):=by
  unfold p_name at h
  refine enterT Tryd.func22 rfl (frm:=[_,_,_,_,_,_,_,_,_,_,_,_,_,_,_,_,_,_,_,_,_,_,_,_,_,_,_,_,_,_,_,_,_,_,_,_,_,_,_,_,_,_,_,_,_,_,_]) rfl ?_
  refine cseq ?_
  refine creg ?_
  refine wl (s_assign ec (dt p2) ?_)
  refine wnil ?_
  refine xn ?_
  refine cseq ?_
  refine cseq ?_
  refine ccutE (rg 4 15) (by decide) (fun m w=>∃ (μx:M) (b11:Bool),m=(yK4 (yO10 4 (yO5 14 (.i (.bool b11)::[]))))∧p_name_j1 fu left_2 end_6 deep_7 b11=some r∧Le μ0 μx∧Sq μx w0 w (.blk b1 49 [.slice a3 left_2.length c4,.int .i64 end_6,.int .i64 deep_7]::rsF)) (by rintro _ _ ⟨_,_,rfl,_⟩; rfl) ?_ ?_
  · refine creg ?_
    refine wl (s_move (et d0) (dt p4) ?_)
    refine wl (s_nilck (et d4) (dt p5) ?_)
    refine wl (s_fa fa49_0 (et d5) rfl (dt p6) ?_)
    refine wl (s_load ti42 (et d6) ((hS.blk d0).cell d0) (dt p7) ?_)
    refine wl (s_lensl Tryd.underlying42 (et d7) (dt p8) ?_)
    refine wl (s_eqi (et d8) ec (dt p9) ?_)
    refine wl (s_move (et d9) (dt (q10 p0)) ?_)
    refine wspd (k10 d0) (q10 p0) (q10 p0) (fun h12=>?_) (fun h12=>?_)
    · replace h:=iT h12 h
      refine wn rfl (k10 d0) rfl (dt (q10 p1)) ?_
      refine wn rfl (k10 d0) rfl (dt (q10 p2)) ?_
      refine wn rfl (k10 d0) rfl (dt (q10 p3)) ?_
      refine wn rfl (k10 d0) rfl (dt (q10 p4)) ?_
      refine wn rfl (k10 d0) rfl (dt (q10 p5)) ?_
      refine wn rfl (k10 d0) rfl (dt (q10 p6)) ?_
      refine wn rfl (k10 d0) rfl (dt (q10 p7)) ?_
      refine wn rfl (k10 d0) rfl (dt (q10 p8)) ?_
      refine wl (s_pickt (et (k10 d0)) ec (dt (q10 p9)) ?_)
      refine wnil ?_
      refine xl ?_
      exact ⟨_,_,rfl,(aK4 (aO10 (aO5 (aI aZ)))),_,true,rfl,h,Le.r,hS⟩
    · replace h:=iF h12 h
      refine wy rfl (k10 d0) (s_move (et d0) (dt (q10 p1)) ?_)
      refine wy rfl (k10 d0) (s_nilck (et (k10 d1)) (dt (q10 p2)) ?_)
      refine wy rfl (k10 d0) (s_fa fa49_0 (et (k10 d2)) rfl (dt (q10 p3)) ?_)
      refine wy rfl (k10 d0) (s_load ti42 (et (k10 d3)) ((hS.blk d0).cell d0) (dt (q10 p4)) ?_)
      replace h:=bI h; obtain ⟨x13,g14,h⟩:=h
      obtain ⟨b15,o16,cs17,e18,f19,m20⟩:=SlR.elem m5 g14
      obtain rfl:=m20
      refine wy rfl (k10 d0) (s_iax Tryd.underlying42 ti59 (et (k10 d4)) ec e18 (dt (q10 p5)) ?_)
      refine wy rfl (k10 d0) (s_fa fa59_0 (et (k10 d5)) rfl (dt (q10 p6)) ?_)
      refine wy rfl (k10 d0) (s_load ti3 (et (k10 d6)) ((f19 _ hS.a).one d0) (dt (q10 p7)) ?_)
      refine wy rfl (k10 d0) (s_nei (et (k10 d7)) ec (dt (q10 p8)) ?_)
      refine wl (s_pickf (et (k10 d0)) (et (k10 d8)) (dt (q10 p9)) ?_)
      refine wnil ?_
      refine xl ?_
      exact ⟨_,_,rfl,(aK4 (aO10 (aO5 (aI aZ)))),_,(decide (x13.Kind≠1)),rfl,h,Le.r,hS⟩
  · rintro _ t w1 ⟨μ1,b11,rfl,h,le21,hS⟩
    unfold p_name_j1 at h
    refine nrm (mK4 (mO10 (mO5 (mi mz)))) ?_
    refine xn ?_
    refine cifb (et (k10 d9)) (fun h22=>?_) (fun h22=>?_)
    · replace h:=iT h22 h
      refine creg ?_
      refine wl (s_move (et d0) (dt (q20 p0)) ?_)
      refine wl (s_move (et d0) (dt (q20 p1)) ?_)
      replace h:=bI h; obtain ⟨r23,g24,h⟩:=h
      refine wl (s_callv isfn10 ef (e1 (et (k20 d1)) e0) (p_at_w (hg.t le21) (m5.up le21) g24 hS) ?_)
      rintro _ w2 ⟨μ2,rfl,le25,hS⟩
      refine pu (dt (q20 p2)) ?_
      obtain rfl:=oI h
      refine wl (s_callte isfn9 ef (e1 (et (k20 d0)) (e1 ec (e1 (et (k20 d2)) e0))) (p_fail_w (R:=fun (_:Unit) _ _=>True) hS) ?_)
      rintro w_ ⟨μ_,v0_,v1_,i_,le_,hS⟩
      exact thN (P:=Tryd.prog) (fn:=Tryd.f22) ⟨_,_,_,_,((le21.t le25).t le_),hS⟩
    · replace h:=iF h22 h
      refine cskip ?_
      refine xn ?_
      refine cseq ?_
      refine creg ?_
      refine wl (s_move (et d0) (dt (q20 p4)) ?_)
      refine wl (s_nilck (et (k20 d4)) (dt (q20 p5)) ?_)
      refine wl (s_fa fa49_0 (et (k20 d5)) rfl (dt (q20 p6)) ?_)
      refine wl (s_load ti42 (et (k20 d6)) ((hS.blk d0).cell d0) (dt (q20 p7)) ?_)
      replace h:=bI h; obtain ⟨x26,g27,h⟩:=h
      obtain ⟨b28,o29,cs30,e31,f32,m33⟩:=SlR.elem (m5.up le21) g27
      obtain rfl:=m33
      refine wl (s_iax Tryd.underlying42 ti59 (et (k20 d7)) ec e31 (dt (q20 p8)) ?_)
      refine wl (s_fa fa59_1 (et (k20 d8)) rfl (dt (q20 p9)) ?_)
      refine wl (s_load ti9 (et (k20 d9)) ((f32 _ hS.a).one d1) (dt (q30 p0)) ?_)
      refine wl (s_assign (et (k30 d0)) (dt p3) ?_)
      refine wnil ?_
      refine xn ?_
      refine cseq ?_
      refine cseq ?_
      refine creg ?_
      refine wl (s_move (et d3) (dt (q30 p1)) ?_)
      replace h:=bI h; obtain ⟨r34,g35,h⟩:=h
      refine wl (s_callv isfn35 ef (e1 (et (k30 d1)) e0) (lex_named_w (hg.t le21) g35 hS) ?_)
      rintro _ w3 ⟨μ3,rfl,le36,hS⟩
      refine pu (dt (q30 p2)) ?_
      refine wl (s_not (et (k30 d2)) (dt (q30 p3)) ?_)
      refine wnil ?_
      refine xn ?_
      refine cifnb (et (k30 d3)) (fun h37=>?_) (fun h37=>?_)
      · replace h:=iF h37 h
        refine creg ?_
        refine wl (s_move (et d0) (dt (q30 p4)) ?_)
        refine wl (s_move (et d0) (dt (q30 p5)) ?_)
        replace h:=bI h; obtain ⟨r38,g39,h⟩:=h
        refine wl (s_callv isfn10 ef (e1 (et (k30 d5)) e0) (p_at_w (hg.t (le21.t le36)) (m5.up (le21.t le36)) g39 hS) ?_)
        rintro _ w4 ⟨μ4,rfl,le40,hS⟩
        refine pu (dt (q30 p6)) ?_
        obtain rfl:=oI h
        refine wl (s_callte isfn9 ef (e1 (et (k30 d4)) (e1 ec (e1 (et (k30 d6)) e0))) (p_fail_w (R:=fun (_:Unit) _ _=>True) hS) ?_)
        rintro w_ ⟨μ_,v0_,v1_,i_,le_,hS⟩
        exact thN (P:=Tryd.prog) (fn:=Tryd.f22) ⟨_,_,_,_,((le21.t (le36.t le40)).t le_),hS⟩
      · replace h:=iT h37 h
        refine cskip ?_
        refine xn ?_
        refine cseq ?_
        refine creg ?_
        refine wl (s_move (et d0) (dt (q30 p8)) ?_)
        refine wl (s_move (et d0) (dt (q30 p9)) ?_)
        refine wl (s_nilck (et (k30 d9)) (dt (q40 p0)) ?_)
        refine wl (s_fa fa49_0 (et (k40 d0)) rfl (dt (q40 p1)) ?_)
        refine wl (s_load ti42 (et (k40 d1)) ((hS.blk d0).cell d0) (dt (q40 p2)) ?_)
        replace h:=bI h; obtain ⟨l41,g42,h⟩:=h
        obtain ⟨a43,c44,e45,m46⟩:=Sl.slc (i:=some 1) (j:=none) (m5.up (le21.t le36)) g42
        refine wl (s_slc Tryd.underlying42 ti59 (et (k40 d2)) (.s ec) .n e45 (dt (q40 p3)) ?_)
        refine wl (s_nilck (et (k30 d8)) (dt (q40 p4)) ?_)
        refine wl (s_fa fa49_0 (et (k40 d4)) rfl (dt (q40 p5)) ?_)
        refine wl (s_store1 ti42 (et (k40 d5)) (et (k40 d3)) rfl hS d0 p0 rfl p0 dn ?_)
        clear hS; intro w5 hS
        refine wnil ?_
        refine xn ?_
        refine cseq ?_
        refine creg ?_
        refine wl (s_move (et d3) (dt (q40 p6)) ?_)
        refine wl (s_assign (et (k40 d6)) (dt p2) ?_)
        refine wnil ?_
        refine xn ?_
        refine cret ?_
        obtain rfl:=oI h
        refine okT ?_
        refine ret1 rfl d2 ?_
        exact ⟨_,a43,c44,rfl,(le21.t le36),hS,m46⟩
theorem p_number_w {μ0:M} {w0 w:World} {rsF:List Res} (hg:Le Gm μ0) {b1:Nat} {left_2:List TToken} {a3:Option Addr} {c4:Nat} {end_6:Int} {deep_7:Int} {r:Except TFault (Int×List TToken×Int×Int)} (m5:Sl μ0 a3 c4 left_2) (h:p_number left_2 end_6 deep_7=some r) (hS:Sq μ0 w0 w (.blk b1 49 [.slice a3 left_2.length c4,.int .i64 end_6,.int .i64 deep_7]::rsF)):CallsT Tryd.prog 24 [.pointer (some ⟨b1,0,none⟩)] w Voops r (fun x v w'=>∃ (μ':M) (a8:Option Addr) (c9:Nat),v=.int .i64 x.1∧Le μ0 μ'∧Sq μ' w0 w' (.blk b1 49 [.slice a8 x.2.1.length c9,.int .i64 x.2.2.1,.int .i64 x.2.2.2]::rsF)∧Sl μ' a8 c9 x.2.1) (EP μ0 w0 b1 49 rsF):=by
  unfold p_number at h
  refine enterT Tryd.func24 rfl (frm:=[_,_,_,_,_,_,_,_,_,_,_,_,_,_,_,_,_,_,_,_,_,_,_,_,_,_,_,_,_,_,_,_,_,_,_,_,_,_,_,_]) rfl ?_
  refine cseq ?_
  refine creg ?_
  refine wl (s_assign ec (dt p2) ?_)
  refine wnil ?_
  refine xn ?_
  refine cseq ?_
  refine cseq ?_
  refine ccutE (rg 4 15) (by decide) (fun m w=>∃ (μx:M) (b11:Bool),m=(yK4 (yO10 4 (yO5 14 (.i (.bool b11)::[]))))∧p_number_j1 left_2 end_6 deep_7 b11=some r∧Le μ0 μx∧Sq μx w0 w (.blk b1 49 [.slice a3 left_2.length c4,.int .i64 end_6,.int .i64 deep_7]::rsF)) (by rintro _ _ ⟨_,_,rfl,_⟩; rfl) ?_ ?_
  · refine creg ?_
    refine wl (s_move (et d0) (dt p4) ?_)
    refine wl (s_nilck (et d4) (dt p5) ?_)
    refine wl (s_fa fa49_0 (et d5) rfl (dt p6) ?_)
    refine wl (s_load ti42 (et d6) ((hS.blk d0).cell d0) (dt p7) ?_)
    refine wl (s_lensl Tryd.underlying42 (et d7) (dt p8) ?_)
    refine wl (s_eqi (et d8) ec (dt p9) ?_)
    refine wl (s_move (et d9) (dt (q10 p0)) ?_)
    refine wspd (k10 d0) (q10 p0) (q10 p0) (fun h12=>?_) (fun h12=>?_)
    · replace h:=iT h12 h
      refine wn rfl (k10 d0) rfl (dt (q10 p1)) ?_
      refine wn rfl (k10 d0) rfl (dt (q10 p2)) ?_
      refine wn rfl (k10 d0) rfl (dt (q10 p3)) ?_
      refine wn rfl (k10 d0) rfl (dt (q10 p4)) ?_
      refine wn rfl (k10 d0) rfl (dt (q10 p5)) ?_
      refine wn rfl (k10 d0) rfl (dt (q10 p6)) ?_
      refine wn rfl (k10 d0) rfl (dt (q10 p7)) ?_
      refine wn rfl (k10 d0) rfl (dt (q10 p8)) ?_
      refine wl (s_pickt (et (k10 d0)) ec (dt (q10 p9)) ?_)
      refine wnil ?_
      refine xl ?_
      exact ⟨_,_,rfl,(aK4 (aO10 (aO5 (aI aZ)))),_,true,rfl,h,Le.r,hS⟩
    · replace h:=iF h12 h
      refine wy rfl (k10 d0) (s_move (et d0) (dt (q10 p1)) ?_)
      refine wy rfl (k10 d0) (s_nilck (et (k10 d1)) (dt (q10 p2)) ?_)
      refine wy rfl (k10 d0) (s_fa fa49_0 (et (k10 d2)) rfl (dt (q10 p3)) ?_)
      refine wy rfl (k10 d0) (s_load ti42 (et (k10 d3)) ((hS.blk d0).cell d0) (dt (q10 p4)) ?_)
      replace h:=bI h; obtain ⟨x13,g14,h⟩:=h
      obtain ⟨b15,o16,cs17,e18,f19,m20⟩:=SlR.elem m5 g14
      obtain rfl:=m20
      refine wy rfl (k10 d0) (s_iax Tryd.underlying42 ti59 (et (k10 d4)) ec e18 (dt (q10 p5)) ?_)
      refine wy rfl (k10 d0) (s_fa fa59_0 (et (k10 d5)) rfl (dt (q10 p6)) ?_)
      refine wy rfl (k10 d0) (s_load ti3 (et (k10 d6)) ((f19 _ hS.a).one d0) (dt (q10 p7)) ?_)
      refine wy rfl (k10 d0) (s_nei (et (k10 d7)) ec (dt (q10 p8)) ?_)
      refine wl (s_pickf (et (k10 d0)) (et (k10 d8)) (dt (q10 p9)) ?_)
      refine wnil ?_
      refine xl ?_
      exact ⟨_,_,rfl,(aK4 (aO10 (aO5 (aI aZ)))),_,(decide (x13.Kind≠2)),rfl,h,Le.r,hS⟩
  · rintro _ t w1 ⟨μ1,b11,rfl,h,le21,hS⟩
    unfold p_number_j1 at h
    refine nrm (mK4 (mO10 (mO5 (mi mz)))) ?_
    refine xn ?_
    refine cifb (et (k10 d9)) (fun h22=>?_) (fun h22=>?_)
    · replace h:=iT h22 h
      refine creg ?_
      refine wl (s_move (et d0) (dt (q20 p0)) ?_)
      refine wl (s_move (et d0) (dt (q20 p1)) ?_)
      replace h:=bI h; obtain ⟨r23,g24,h⟩:=h
      refine wl (s_callv isfn10 ef (e1 (et (k20 d1)) e0) (p_at_w (hg.t le21) (m5.up le21) g24 hS) ?_)
      rintro _ w2 ⟨μ2,rfl,le25,hS⟩
      refine pu (dt (q20 p2)) ?_
      obtain rfl:=oI h
      refine wl (s_callte isfn9 ef (e1 (et (k20 d0)) (e1 ec (e1 (et (k20 d2)) e0))) (p_fail_w (R:=fun (_:Unit) _ _=>True) hS) ?_)
      rintro w_ ⟨μ_,v0_,v1_,i_,le_,hS⟩
      exact thN (P:=Tryd.prog) (fn:=Tryd.f24) ⟨_,_,_,_,((le21.t le25).t le_),hS⟩
    · replace h:=iF h22 h
      refine cskip ?_
      refine xn ?_
      refine cseq ?_
      refine creg ?_
      refine wl (s_move (et d0) (dt (q20 p4)) ?_)
      refine wl (s_nilck (et (k20 d4)) (dt (q20 p5)) ?_)
      refine wl (s_fa fa49_0 (et (k20 d5)) rfl (dt (q20 p6)) ?_)
      refine wl (s_load ti42 (et (k20 d6)) ((hS.blk d0).cell d0) (dt (q20 p7)) ?_)
      replace h:=bI h; obtain ⟨x26,g27,h⟩:=h
      obtain ⟨b28,o29,cs30,e31,f32,m33⟩:=SlR.elem (m5.up le21) g27
      obtain rfl:=m33
      refine wl (s_iax Tryd.underlying42 ti59 (et (k20 d7)) ec e31 (dt (q20 p8)) ?_)
      refine wl (s_fa fa59_2 (et (k20 d8)) rfl (dt (q20 p9)) ?_)
      refine wl (s_load ti2 (et (k20 d9)) ((f32 _ hS.a).one d2) (dt (q30 p0)) ?_)
      refine wl (s_assign (et (k30 d0)) (dt p3) ?_)
      refine wnil ?_
      refine xn ?_
      refine cseq ?_
      refine creg ?_
      refine wl (s_move (et d0) (dt (q30 p1)) ?_)
      refine wl (s_move (et d0) (dt (q30 p2)) ?_)
      refine wl (s_nilck (et (k30 d2)) (dt (q30 p3)) ?_)
      refine wl (s_fa fa49_0 (et (k30 d3)) rfl (dt (q30 p4)) ?_)
      refine wl (s_load ti42 (et (k30 d4)) ((hS.blk d0).cell d0) (dt (q30 p5)) ?_)
      replace h:=bI h; obtain ⟨l34,g35,h⟩:=h
      obtain ⟨a36,c37,e38,m39⟩:=Sl.slc (i:=some 1) (j:=none) (m5.up le21) g35
      refine wl (s_slc Tryd.underlying42 ti59 (et (k30 d5)) (.s ec) .n e38 (dt (q30 p6)) ?_)
      refine wl (s_nilck (et (k30 d1)) (dt (q30 p7)) ?_)
      refine wl (s_fa fa49_0 (et (k30 d7)) rfl (dt (q30 p8)) ?_)
      refine wl (s_store1 ti42 (et (k30 d8)) (et (k30 d6)) rfl hS d0 p0 rfl p0 dn ?_)
      clear hS; intro w3 hS
      refine wnil ?_
      refine xn ?_
      refine cseq ?_
      refine creg ?_
      refine wl (s_move (et d3) (dt (q30 p9)) ?_)
      refine wl (s_assign (et (k30 d9)) (dt p2) ?_)
      refine wnil ?_
      refine xn ?_
      refine cret ?_
      obtain rfl:=oI h
      refine okT ?_
      refine ret1 rfl d2 ?_
      exact ⟨_,a36,c37,rfl,le21,hS,m39⟩
theorem p_typ_w {fu:Nat} {μ0:M} {w0 w:World} {rsF:List Res} (hg:Le Gm μ0) {b1:Nat} {left_2:List TToken} {a3:Option Addr} {c4:Nat} {end_6:Int} {deep_7:Int} {r:Except TFault (TType×List TToken×Int×Int)} (m5:Sl μ0 a3 c4 left_2) (h:p_typ fu left_2 end_6 deep_7=some r) (hS:Sq μ0 w0 w (.blk b1 49 [.slice a3 left_2.length c4,.int .i64 end_6,.int .i64 deep_7]::rsF)):CallsT Tryd.prog 23 [.pointer (some ⟨b1,0,none⟩)] w Voops r (fun x v w'=>∃ (μ':M) (a8:Option Addr) (c9:Nat),v=.agg ⟨[.int .i64 x.1.Kind,S x.1.Gen]⟩∧Le μ0 μ'∧Sq μ' w0 w' (.blk b1 49 [.slice a8 x.2.1.length c9,.int .i64 x.2.2.1,.int .i64 x.2.2.2]::rsF)∧Sl μ' a8 c9 x.2.1) (EP μ0 w0 b1 49 rsF):=by
  unfold p_typ at h
  refine enterT Tryd.func23 rfl (frm:=[_,_,_,_,_,_,_,_,_,_,_,_,_,_]) rfl ?_
  refine cseq ?_
  refine creg ?_
  refine wl (s_alloc ti32 hS ?_); clear hS; intro b11 w1 hb12 hS; refine pu (dt p2) ?_
  refine wnil ?_
  refine xn ?_
  refine cseq ?_
  refine cblock ?_
  refine cseq ?_
  refine creg ?_
  refine wl (s_move (et d0) (dt p4) ?_)
  replace h:=bI h; obtain ⟨r13,g14,h⟩:=h
  replace hS:=hS.bg (Bg.s Bg.z)
  refine wl (s_callv isfn21 ef (e1 (et d4) (e1 ec e0)) (p_is_w hg m5 g14 hS) ?_)
  rintro _ w2 ⟨μ1,a16,c17,rfl,le15,hS,m18⟩
  refine pu (dt p5) ?_
  refine wl (s_assign (et d5) (dt p3) ?_)
  refine wnil ?_
  refine xn ?_
  refine cifb (et d3) (fun h19=>?_) (fun h19=>?_)
  · replace h:=iT h19 h
    refine cseq ?_
    refine creg ?_
    refine wl (s_build ti32 pl32 (Fl.o rfl ec rfl rfl p0 Fl.z) (dt p6) ?_)
    refine wl (s_storeA ti32 (et d2) (et d6) rfl rfl hS d1 rfl p1 dn ?_)
    clear hS; intro w3 hS
    refine wnil ?_
    refine xn ?_
    refine cret ?_
    refine (fun h=>br (xr h)) ?_
    obtain rfl:=oI h
    refine okT ?_
    refine retN rfl (RVs.s (.a d2 ti32 (hS.blk d1).cells rfl) RVs.z) ?_
    replace hS:=hS.drop (Rm.s Rm.z)
    exact ⟨_,a16,c17,rfl,le15,hS,m18⟩
  · replace h:=iF h19 h
    refine cseq ?_
    refine creg ?_
    refine wl (s_move (et d0) (dt p8) ?_)
    replace h:=bI h; obtain ⟨r20,g21,h⟩:=h
    refine wl (s_callv isfn21 ef (e1 (et d8) (e1 ec e0)) (p_is_w (hg.t le15) m18 g21 hS) ?_)
    rintro _ w4 ⟨μ2,a23,c24,rfl,le22,hS,m25⟩
    refine pu (dt p9) ?_
    refine wl (s_assign (et d9) (dt p7) ?_)
    refine wnil ?_
    refine xn ?_
    refine cifb (et d7) (fun h26=>?_) (fun h26=>?_)
    · replace h:=iT h26 h
      refine cseq ?_
      refine creg ?_
      refine wl (s_build ti32 pl32 (Fl.o rfl ec rfl rfl p0 Fl.z) (dt (q10 p0)) ?_)
      refine wl (s_storeA ti32 (et d2) (et (k10 d0)) rfl rfl hS d1 rfl p1 dn ?_)
      clear hS; intro w5 hS
      refine wnil ?_
      refine xn ?_
      refine cret ?_
      refine (fun h=>br (xr h)) ?_
      obtain rfl:=oI h
      refine okT ?_
      refine retN rfl (RVs.s (.a d2 ti32 (hS.blk d1).cells rfl) RVs.z) ?_
      replace hS:=hS.drop (Rm.s Rm.z)
      exact ⟨_,a23,c24,rfl,(le15.t le22),hS,m25⟩
    · replace h:=iF h26 h
      refine cskip ?_
      refine (fun h=>bn (xn h)) ?_
      refine cseq ?_
      refine creg ?_
      refine wl (s_move (et d0) (dt (q10 p1)) ?_)
      rcases bTe h with ⟨e_,g28,rfl⟩ | ⟨r27,g28,h⟩
      · refine wl (s_callte isfn22 ef (e1 (et (k10 d1)) e0) (p_name_w (hg.t (le15.t le22)) m25 g28 hS) ?_)
        rintro w_ ⟨μ_,v0_,v1_,i_,le_,hS⟩
        replace hS:=Sep.dropL (l:=[_]) hS
        exact thN (P:=Tryd.prog) (fn:=Tryd.f23) ⟨_,_,_,_,((le15.t le22).t le_),hS⟩
      refine wl (s_callv isfn22 ef (e1 (et (k10 d1)) e0) ((p_name_w (hg.t (le15.t le22)) m25 g28 hS).ok) ?_)
      rintro _ w6 ⟨μ3,a30,c31,rfl,le29,hS,m32⟩
      refine pu (dt (q10 p2)) ?_
      refine wl (s_build ti32 pl32 (Fl.o rfl ec rfl rfl p0 (Fl.o rfl (et (k10 d2)) rfl rfl p1 Fl.z)) (dt (q10 p3)) ?_)
      refine wl (s_storeA ti32 (et d2) (et (k10 d3)) rfl rfl hS d1 rfl p1 dn ?_)
      clear hS; intro w7 hS
      refine wnil ?_
      refine xn ?_
      refine cret ?_
      obtain rfl:=oI h
      refine okT ?_
      refine retN rfl (RVs.s (.a d2 ti32 (hS.blk d1).cells rfl) RVs.z) ?_
      replace hS:=hS.drop (Rm.s Rm.z)
      exact ⟨_,a30,c31,rfl,(le15.t (le22.t le29)),hS,m32⟩
theorem p_params_w {fu:Nat} {μ0:M} {w0 w:World} {rsF:List Res} (hg:Le Gm μ0) {b1:Nat} {left_2:List TToken} {a3:Option Addr} {c4:Nat} {end_6:Int} {deep_7:Int} {r:Except TFault (List TParam×List TToken×Int×Int)} (m5:Sl μ0 a3 c4 left_2) (h:p_params fu left_2 end_6 deep_7=some r) (hS:Sq μ0 w0 w (.blk b1 49 [.slice a3 left_2.length c4,.int .i64 end_6,.int .i64 deep_7]::rsF)):CallsT Tryd.prog 26 [.pointer (some ⟨b1,0,none⟩)] w Voops r (fun x v w'=>∃ (μ':M) (a8:Option Addr) (c9:Nat) (a11:Option Addr) (c12:Nat),v=.slice a8 x.1.length c9∧Le μ0 μ'∧Sq μ' w0 w' (.blk b1 49 [.slice a11 x.2.1.length c12,.int .i64 x.2.2.1,.int .i64 x.2.2.2]::rsF)∧Sl μ' a8 c9 x.1∧Sl μ' a11 c12 x.2.1) (EP μ0 w0 b1 49 rsF):=by
  unfold p_params at h
  refine enterT Tryd.func26 rfl (frm:=[_,_,_,_,_,_,_,_,_,_,_,_,_,_,_,_,_,_,_,_,_,_,_,_,_,_,_,_,_,_,_,_]) rfl ?_
  refine cseq ?_
  refine creg ?_
  refine wl (s_assign ec (dt p2) ?_)
  refine wnil ?_
  refine xn ?_
  refine cseq ?_
  refine creg ?_
  refine wl (s_assign ec (dt p3) ?_)
  refine wnil ?_
  refine xn ?_
  refine cseq ?_
  refine cseq ?_
  refine creg ?_
  refine wl (s_move (et d0) (dt p4) ?_)
  refine wl (s_bsl Tryd.underlying81 ti9 (Parts.s ec rfl Parts.z) rfl rfl hS ?_); clear hS; intro b14 w1 hb15 hS; refine pu (dt p5) ?_
  obtain ⟨μ1,le17,m16,hS⟩:=Sep.frzBlk (l:=([[40]]:List (List UInt8))) hS (Rw.one (α:=List UInt8) rfl) (Nat.le_of_ble_eq_true rfl)
  rcases bTe h with ⟨e_,g19,rfl⟩ | ⟨r18,g19,h⟩
  · refine wl (s_callte isfn25 ef (e1 (et d4) (e1 (et d5) e0)) (p_need_w (hg.t le17) (m5.up le17) m16 g19 hS) ?_)
    rintro w_ ⟨μ_,v0_,v1_,i_,le_,hS⟩
    exact thN (P:=Tryd.prog) (fn:=Tryd.f26) ⟨_,_,_,_,(le17.t le_),hS⟩
  refine wl (s_callv isfn25 ef (e1 (et d4) (e1 (et d5) e0)) ((p_need_w (hg.t le17) (m5.up le17) m16 g19 hS).ok) ?_)
  rintro _ w2 ⟨μ2,a21,c22,rfl,le20,hS,m23⟩
  refine pu (dt p6) ?_
  refine wnil ?_
  refine xn ?_
  refine cblock ?_
  replace hS:=hS.nilRow 56 (Mo.sz TParam)
  replace hS:=hS.bg (Bg.s Bg.z)
  refine cloopE (rg 7 24) (by decide +kernel) (fun n m w=>∃ (μx:M) (l71:List TToken) (a69:Option Addr) (c70:Nat) (i73:Int) (i74:Int) (l77:List TParam) (v75:Value) (cs76:List Value),m=(yK3 (.i (v75)::(yK3 (yO20 7 (yO4 27 [])))))∧p_params_l1 fu n l71 i73 i74 l77=some r∧Le μ2 μx∧Sq μx w0 w (.blk b1 49 [.slice a69 l71.length c70,.int .i64 i73,.int .i64 i74]::.row v75 56 3 l77.length cs76::rsF)∧Sl μx a69 c70 l71∧Rw μx cs76 l77) (by rintro _ _ _ ⟨_,_,_,_,_,_,_,_,_,rfl,_⟩; rfl) _ _ (aK3 (aI (aK3 (aO20 (aO4 aZ))))) ⟨_,r18.1,a21,c22,r18.2.1,r18.2.2,[],(.slice none 0 0),[],rfl,h,Le.r,hS,m23,Rw.nil⟩ ?_
  rintro n_1 _ t w3 ⟨μ3,l71,a69,c70,i73,i74,l77,v75,cs76,rfl,h,le123,hS,m124,m125⟩
  cases n_1 with
  | zero=>cases h
  | succ n_1 =>
  unfold p_params_l1 at h
  refine cnrm (mK3 (mi (mK3 (mO20 (mO4 mz))))) ?_
  refine cseq ?_
  refine cseq ?_
  refine creg ?_
  refine wl (s_move (et d0) (dt p7) ?_)
  replace h:=bI h; obtain ⟨r126,g127,h⟩:=h
  refine wl (s_callv isfn21 ef (e1 (et d7) (e1 ec e0)) (p_is_w (hg.t (le17.t (le20.t le123))) m124 g127 hS) ?_)
  rintro _ w4 ⟨μ4,a129,c130,rfl,le128,hS,m131⟩
  refine pu (dt p8) ?_
  refine wl (s_not (et d8) (dt p9) ?_)
  refine wnil ?_
  refine xn ?_
  refine cifnb (et d9) (fun h132=>?_) (fun h132=>?_)
  · replace h:=iF h132 h
    refine cskip ?_
    refine xn ?_
    refine cblock ?_
    refine cseq ?_
    refine cseq ?_
    refine creg ?_
    refine wl (s_move (et d3) (dt (q10 p0)) ?_)
    refine wl (s_lenv Tryd.underlying33 (et (k10 d0)) (hS.get d1).isSl (dt (q10 p1)) ?_)
    refine wl (s_gtr (et (k10 d1)) ec (dt (q10 p2)) ?_)
    refine wnil ?_
    refine xn ?_
    refine ccutE (rg 13 3) (by decide) (fun m w=>∃ (μx:M) (l135:List TToken) (a133:Option Addr) (c134:Nat) (i137:Int) (i138:Int),m=(yK10 (yK3 (yO3 13 [])))∧p_params_j1 fu l77 (p_params_l1 fu n_1) l135 i137 i138=some r∧Le μ4 μx∧Sq μx w0 w (.blk b1 49 [.slice a133 l135.length c134,.int .i64 i137,.int .i64 i138]::.row v75 56 3 l77.length cs76::rsF)∧Sl μx a133 c134 l135) (by rintro _ _ ⟨_,_,_,_,_,_,rfl,_⟩; rfl) ?_ ?_
    · refine cifd (et (k10 d2)) (fun h139=>?_) (fun h139=>?_)
      · replace h:=iT h139 h
        refine creg ?_
        refine wl (s_move (et d0) (dt (q10 p3)) ?_)
        refine wl (s_bsl Tryd.underlying81 ti9 (Parts.s ec rfl Parts.z) rfl rfl hS ?_); clear hS; intro b140 w5 hb141 hS; refine pu (dt (q10 p4)) ?_
        obtain ⟨μ5,le143,m142,hS⟩:=Sep.frzBlk (l:=([[44]]:List (List UInt8))) hS (Rw.one (α:=List UInt8) rfl) (Nat.le_of_ble_eq_true rfl)
        rcases bTe h with ⟨e_,g145,rfl⟩ | ⟨r144,g145,h⟩
        · refine wl (s_callte isfn25 ef (e1 (et (k10 d3)) (e1 (et (k10 d4)) e0)) (p_need_w (hg.t (le17.t (le20.t (le123.t (le128.t le143))))) (m131.up le143) m142 g145 hS) ?_)
          rintro w_ ⟨μ_,v0_,v1_,i_,le_,hS⟩
          replace hS:=Sep.dropL (l:=[_]) hS
          exact thN (P:=Tryd.prog) (fn:=Tryd.f26) ⟨_,_,_,_,((le17.t (le20.t (le123.t (le128.t le143)))).t le_),hS⟩
        refine wl (s_callv isfn25 ef (e1 (et (k10 d3)) (e1 (et (k10 d4)) e0)) ((p_need_w (hg.t (le17.t (le20.t (le123.t (le128.t le143))))) (m131.up le143) m142 g145 hS).ok) ?_)
        rintro _ w6 ⟨μ6,a147,c148,rfl,le146,hS,m149⟩
        refine pu (dt (q10 p5)) ?_
        refine wnil ?_
        refine xl ?_
        exact ⟨_,_,rfl,(aK10 (aK3 (aO3 aZ))),_,r144.1,a147,c148,r144.2.1,r144.2.2,rfl,h,(le143.t le146),hS,m149⟩
      · replace h:=iF h139 h
        refine cskip ?_
        refine xl ?_
        exact ⟨_,_,rfl,(aK10 (aK3 (aO3 aZ))),_,r126.2.1,a129,c130,r126.2.2.1,r126.2.2.2,rfl,h,Le.r,hS,m131⟩
    · rintro _ t w7 ⟨μ7,l135,a133,c134,i137,i138,rfl,h,le150,hS,m151⟩
      unfold p_params_j1 at h
      refine nrm (mK10 (mK3 (mO3 mz))) ?_
      refine xn ?_
      refine cseq ?_
      refine cseq ?_
      refine creg ?_
      refine wl (s_move (et d3) (dt (q10 p6)) ?_)
      refine wl (s_lenv Tryd.underlying33 (et (k10 d6)) (hS.get d1).isSl (dt (q10 p7)) ?_)
      refine wl (s_eqi (et (k10 d7)) ec (dt (q10 p8)) ?_)
      refine wnil ?_
      refine xn ?_
      refine cifd (et (k10 d8)) (fun h152=>?_) (fun h152=>?_)
      · replace h:=iT h152 h
        refine creg ?_
        refine wl (s_move (et d0) (dt (q10 p9)) ?_)
        refine wl (s_move (et d0) (dt (q20 p0)) ?_)
        replace h:=bI h; obtain ⟨r153,g154,h⟩:=h
        refine wl (s_callv isfn10 ef (e1 (et (k20 d0)) e0) (p_at_w (hg.t (le17.t (le20.t (le123.t (le128.t le150))))) m151 g154 hS) ?_)
        rintro _ w8 ⟨μ8,rfl,le155,hS⟩
        refine pu (dt (q20 p1)) ?_
        obtain rfl:=oI h
        refine wl (s_callte isfn9 ef (e1 (et (k10 d9)) (e1 ec (e1 (et (k20 d1)) e0))) (p_fail_w (R:=fun (_:Unit) _ _=>True) hS) ?_)
        rintro w_ ⟨μ_,v0_,v1_,i_,le_,hS⟩
        replace hS:=Sep.dropL (l:=[_]) hS
        exact thN (P:=Tryd.prog) (fn:=Tryd.f26) ⟨_,_,_,_,((le17.t (le20.t (le123.t (le128.t (le150.t le155))))).t le_),hS⟩
      · replace h:=iF h152 h
        refine cskip ?_
        refine xn ?_
        refine creg ?_
        refine wl (s_move (et d3) (dt (q20 p3)) ?_)
        refine wl (s_move (et d0) (dt (q20 p4)) ?_)
        rcases bTe h with ⟨e_,g157,rfl⟩ | ⟨r156,g157,h⟩
        · refine wl (s_callte isfn22 ef (e1 (et (k20 d4)) e0) (p_name_w (hg.t (le17.t (le20.t (le123.t (le128.t le150))))) m151 g157 hS) ?_)
          rintro w_ ⟨μ_,v0_,v1_,i_,le_,hS⟩
          replace hS:=Sep.dropL (l:=[_]) hS
          exact thN (P:=Tryd.prog) (fn:=Tryd.f26) ⟨_,_,_,_,((le17.t (le20.t (le123.t (le128.t le150)))).t le_),hS⟩
        refine wl (s_callv isfn22 ef (e1 (et (k20 d4)) e0) ((p_name_w (hg.t (le17.t (le20.t (le123.t (le128.t le150))))) m151 g157 hS).ok) ?_)
        rintro _ w9 ⟨μ9,a159,c160,rfl,le158,hS,m161⟩
        refine pu (dt (q20 p5)) ?_
        refine wl (s_move (et d0) (dt (q20 p6)) ?_)
        rcases bTe h with ⟨e_,g163,rfl⟩ | ⟨r162,g163,h⟩
        · refine wl (s_callte isfn23 ef (e1 (et (k20 d6)) e0) (p_typ_w (hg.t (le17.t (le20.t (le123.t (le128.t (le150.t le158)))))) m161 g163 hS) ?_)
          rintro w_ ⟨μ_,v0_,v1_,i_,le_,hS⟩
          replace hS:=Sep.dropL (l:=[_]) hS
          exact thN (P:=Tryd.prog) (fn:=Tryd.f26) ⟨_,_,_,_,((le17.t (le20.t (le123.t (le128.t (le150.t le158))))).t le_),hS⟩
        refine wl (s_callv isfn23 ef (e1 (et (k20 d6)) e0) ((p_typ_w (hg.t (le17.t (le20.t (le123.t (le128.t (le150.t le158)))))) m161 g163 hS).ok) ?_)
        rintro _ w10 ⟨μ10,a165,c166,rfl,le164,hS,m167⟩
        refine pu (dt (q20 p7)) ?_
        refine wl (s_build ti56 pl56 (Fl.o rfl (et (k20 d5)) rfl rfl p0 (Fl.n rfl (et (k20 d7)) rfl rfl (Spl.s p1 (of_decide_eq_true rfl) (Spl.s p2 (of_decide_eq_true rfl) Spl.z)) Fl.z)) (dt (q20 p8)) ?_)
        refine wl (s_bsl1 Tryd.underlying33 ti56 rfl (et (k20 d8)) rfl hS ?_); clear hS; intro b168 w11 hb169 hS; refine pu (dt (q20 p9)) ?_
        replace h:=bI h; obtain ⟨l172,g173,h⟩:=h
        have m174:Rw μ10 [S r156.1,.int .i64 r162.1.Kind,S r162.1.Gen] [(TParam.mk r156.1 (TType.mk r162.1.Kind r162.1.Gen))]:=(Rw.one (α:=TParam) rfl)
        have m171:=Rw.app (m125.up (le128.t (le150.t (le158.t le164)))) m174 g173
        refine wl (s_app1 Tryd.underlying33 ti56 rfl (et (k20 d3)) (et (k20 d9)) hS d2 (hS.blk d0).cells m174 rfl g173 (by decide) ?_); clear hS; intro v170 w12 rs_ hp_ hS; cases (show _=rs_ from hp_)
        replace hS:=Sep.reput hS p2; refine pu (dt (q30 p0)) ?_
        replace hS:=hS.drop Rm.z
        refine wl (s_assign (et (k30 d0)) (dt p3) ?_)
        refine wnil ?_
        refine (fun h=>bn (xl h)) ?_
        exact ⟨n_1,_,_,rfl,(aK3 (aI (aK3 (aO20 (aO4 aZ))))),⟨_,r162.2.1,a165,c166,r162.2.2.1,r162.2.2.2,l172,v170,(cs76++[S r156.1,.int .i64 r162.1.Kind,S r162.1.Gen]),rfl,h,(le123.t (le128.t (le150.t (le158.t le164)))),hS,m167,m171⟩,Nat.lt_succ_self _⟩
  · replace h:=iT h132 h
    refine cexit ?_
    refine (fun h=>xe (xe (bh h))) ?_
    refine xn ?_
    refine cseq ?_
    refine creg ?_
    refine wl (s_move (et d3) (dt (q30 p1)) ?_)
    refine wl (s_assign (et (k30 d1)) (dt p2) ?_)
    refine wnil ?_
    refine xn ?_
    refine cret ?_
    replace hS:=hS.bg (Bg.s Bg.z)
    obtain ⟨μ11,a175,c176,e179,le178,m177,hq_⟩:=Sep.frzRow hS (m125.up le128) rfl; clear hS
    subst e179; have hS:=hq_; clear hq_
    obtain rfl:=oI h
    refine okT ?_
    refine ret1 rfl d2 ?_
    exact ⟨_,a175,c176,a129,c130,rfl,(le17.t (le20.t (le123.t (le128.t le178)))),hS,m177,(m131.up le178)⟩
theorem p_levels_w {μ0:M} {w0 w:World} {rsF:List Res} (hg:Le Gm μ0)  {r:List TSynLevel}  (h:p_levels =some r) (hS:Sq μ0 w0 w (rsF)):CallsV Tryd.prog 62 [] w (fun v w'=>∃ (μ':M) (a1:Option Addr) (c2:Nat),v=.slice a1 r.length c2∧Le μ0 μ'∧Sq μ' w0 w' (rsF)∧Sl μ' a1 c2 r):=by
  unfold p_levels at h
  refine enter Tryd.func62 rfl (frm:=[_,_,_,_,_,_,_,_,_,_,_,_,_,_,_,_,_]) rfl ?_
  refine cseq ?_
  refine creg ?_
  refine wl (s_assign ec (dt p0) ?_)
  refine wnil ?_
  refine xn ?_
  refine cseq ?_
  refine creg ?_
  refine wl (s_mkmap hS ?_); clear hS; intro b4 w1 hb5 hS; refine pu (dt p1) ?_
  refine wl (s_minsM (κ:=List UInt8) (β:=Int) (kk:=[111,114]) (xx:=18) Tryd.underlying114 Tryd.underlying9 (et d1) ec ec rfl hS d0 (Mq.nil (κ:=List UInt8) (β:=Int) (μ:=μ0) (c:=0)) dn ?_); clear hS; intro es6 c7 w2 rs_ m8 hp_ hS; cases (show _=rs_ from hp_)
  replace hS:=Sep.reput hS p0
  refine wl (s_move (et d1) (dt p2) ?_)
  refine wl (s_build ti116 pl116 (Fl.o rfl (et d2) rfl rfl p0 (Fl.o rfl ec rfl rfl p1 Fl.z)) (dt p3) ?_)
  refine wl (s_mkmap hS ?_); clear hS; intro b9 w3 hb10 hS; refine pu (dt p4) ?_
  refine wl (s_minsM (κ:=List UInt8) (β:=Int) (kk:=[97,110,100]) (xx:=17) Tryd.underlying114 Tryd.underlying9 (et d4) ec ec rfl hS d0 (Mq.nil (κ:=List UInt8) (β:=Int) (μ:=μ0) (c:=0)) dn ?_); clear hS; intro es11 c12 w4 rs_ m13 hp_ hS; cases (show _=rs_ from hp_)
  replace hS:=Sep.reput hS p0
  refine wl (s_move (et d4) (dt p5) ?_)
  refine wl (s_build ti116 pl116 (Fl.o rfl (et d5) rfl rfl p0 (Fl.o rfl ec rfl rfl p1 Fl.z)) (dt p6) ?_)
  refine wl (s_mkmap hS ?_); clear hS; intro b14 w5 hb15 hS; refine pu (dt p7) ?_
  refine wl (s_minsM (κ:=List UInt8) (β:=Int) (kk:=[61,61]) (xx:=11) Tryd.underlying114 Tryd.underlying9 (et d7) ec ec rfl hS d0 (Mq.nil (κ:=List UInt8) (β:=Int) (μ:=μ0) (c:=0)) dn ?_); clear hS; intro es16 c17 w6 rs_ m18 hp_ hS; cases (show _=rs_ from hp_)
  replace hS:=Sep.reput hS p0
  refine wl (s_minsM (κ:=List UInt8) (β:=Int) (kk:=[33,61]) (xx:=12) Tryd.underlying114 Tryd.underlying9 (et d7) ec ec rfl hS d0 m18 dn ?_); clear hS; intro es19 c20 w7 rs_ m21 hp_ hS; cases (show _=rs_ from hp_)
  replace hS:=Sep.reput hS p0
  refine wl (s_minsM (κ:=List UInt8) (β:=Int) (kk:=[60]) (xx:=13) Tryd.underlying114 Tryd.underlying9 (et d7) ec ec rfl hS d0 m21 dn ?_); clear hS; intro es22 c23 w8 rs_ m24 hp_ hS; cases (show _=rs_ from hp_)
  replace hS:=Sep.reput hS p0
  refine wl (s_minsM (κ:=List UInt8) (β:=Int) (kk:=[60,61]) (xx:=14) Tryd.underlying114 Tryd.underlying9 (et d7) ec ec rfl hS d0 m24 dn ?_); clear hS; intro es25 c26 w9 rs_ m27 hp_ hS; cases (show _=rs_ from hp_)
  replace hS:=Sep.reput hS p0
  refine wl (s_minsM (κ:=List UInt8) (β:=Int) (kk:=[62]) (xx:=15) Tryd.underlying114 Tryd.underlying9 (et d7) ec ec rfl hS d0 m27 dn ?_); clear hS; intro es28 c29 w10 rs_ m30 hp_ hS; cases (show _=rs_ from hp_)
  replace hS:=Sep.reput hS p0
  refine wl (s_minsM (κ:=List UInt8) (β:=Int) (kk:=[62,61]) (xx:=16) Tryd.underlying114 Tryd.underlying9 (et d7) ec ec rfl hS d0 m30 dn ?_); clear hS; intro es31 c32 w11 rs_ m33 hp_ hS; cases (show _=rs_ from hp_)
  replace hS:=Sep.reput hS p0
  refine wl (s_move (et d7) (dt p8) ?_)
  refine wl (s_build ti116 pl116 (Fl.o rfl (et d8) rfl rfl p0 (Fl.o rfl ec rfl rfl p1 Fl.z)) (dt p9) ?_)
  refine wl (s_mkmap hS ?_); clear hS; intro b34 w12 hb35 hS; refine pu (dt (q10 p0)) ?_
  refine wl (s_minsM (κ:=List UInt8) (β:=Int) (kk:=[43]) (xx:=6) Tryd.underlying114 Tryd.underlying9 (et (k10 d0)) ec ec rfl hS d0 (Mq.nil (κ:=List UInt8) (β:=Int) (μ:=μ0) (c:=0)) dn ?_); clear hS; intro es36 c37 w13 rs_ m38 hp_ hS; cases (show _=rs_ from hp_)
  replace hS:=Sep.reput hS p0
  refine wl (s_minsM (κ:=List UInt8) (β:=Int) (kk:=[45]) (xx:=7) Tryd.underlying114 Tryd.underlying9 (et (k10 d0)) ec ec rfl hS d0 m38 dn ?_); clear hS; intro es39 c40 w14 rs_ m41 hp_ hS; cases (show _=rs_ from hp_)
  replace hS:=Sep.reput hS p0
  refine wl (s_move (et (k10 d0)) (dt (q10 p1)) ?_)
  refine wl (s_build ti116 pl116 (Fl.o rfl (et (k10 d1)) rfl rfl p0 (Fl.o rfl ec rfl rfl p1 Fl.z)) (dt (q10 p2)) ?_)
  refine wl (s_mkmap hS ?_); clear hS; intro b42 w15 hb43 hS; refine pu (dt (q10 p3)) ?_
  refine wl (s_minsM (κ:=List UInt8) (β:=Int) (kk:=[42]) (xx:=8) Tryd.underlying114 Tryd.underlying9 (et (k10 d3)) ec ec rfl hS d0 (Mq.nil (κ:=List UInt8) (β:=Int) (μ:=μ0) (c:=0)) dn ?_); clear hS; intro es44 c45 w16 rs_ m46 hp_ hS; cases (show _=rs_ from hp_)
  replace hS:=Sep.reput hS p0
  refine wl (s_minsM (κ:=List UInt8) (β:=Int) (kk:=[47]) (xx:=9) Tryd.underlying114 Tryd.underlying9 (et (k10 d3)) ec ec rfl hS d0 m46 dn ?_); clear hS; intro es47 c48 w17 rs_ m49 hp_ hS; cases (show _=rs_ from hp_)
  replace hS:=Sep.reput hS p0
  refine wl (s_minsM (κ:=List UInt8) (β:=Int) (kk:=[37]) (xx:=10) Tryd.underlying114 Tryd.underlying9 (et (k10 d3)) ec ec rfl hS d0 m49 dn ?_); clear hS; intro es50 c51 w18 rs_ m52 hp_ hS; cases (show _=rs_ from hp_)
  replace hS:=Sep.reput hS p0
  refine wl (s_move (et (k10 d3)) (dt (q10 p4)) ?_)
  refine wl (s_build ti116 pl116 (Fl.o rfl (et (k10 d4)) rfl rfl p0 (Fl.o rfl ec rfl rfl p1 Fl.z)) (dt (q10 p5)) ?_)
  replace hS:=hS.bg (Bg.s (Bg.s (Bg.s (Bg.s Bg.z))))
  obtain ⟨μ1,le54,m53,hS⟩:=Sep.frzMap hS m8
  replace hS:=hS.bg (Bg.s (Bg.s (Bg.s Bg.z)))
  obtain ⟨μ2,le56,m55,hS⟩:=Sep.frzMap hS (m13.up le54)
  replace hS:=hS.bg (Bg.s (Bg.s Bg.z))
  obtain ⟨μ3,le58,m57,hS⟩:=Sep.frzMap hS (m33.up (le54.t le56))
  replace hS:=hS.bg (Bg.s Bg.z)
  obtain ⟨μ4,le60,m59,hS⟩:=Sep.frzMap hS (m41.up (le54.t (le56.t le58)))
  obtain ⟨μ5,le62,m61,hS⟩:=Sep.frzMap hS (m52.up (le54.t (le56.t (le58.t le60))))
  refine wl (s_bslA Tryd.underlying112 ti116 (by decide) (.s (et d3) rfl rfl (.s (et d6) rfl rfl (.s (et d9) rfl rfl (.s (et (k10 d2)) rfl rfl (.s (et (k10 d5)) rfl rfl .z))))) rfl hS ?_); clear hS; intro b63 w19 hb64 hS; refine pu (dt (q10 p6)) ?_
  refine wl (s_assign (et (k10 d6)) (dt p0) ?_)
  refine wnil ?_
  refine xn ?_
  refine cret ?_
  obtain ⟨μ6,le66,m65,hS⟩:=Sep.frzBlk (l:=([(TSynLevel.mk (mput ([]:List (List UInt8×Int)) [111,114] 18) false),(TSynLevel.mk (mput ([]:List (List UInt8×Int)) [97,110,100] 17) false),(TSynLevel.mk (mput (mput (mput (mput (mput (mput ([]:List (List UInt8×Int)) [61,61] 11) [33,61] 12) [60] 13) [60,61] 14) [62] 15) [62,61] 16) true),(TSynLevel.mk (mput (mput ([]:List (List UInt8×Int)) [43] 6) [45] 7) false),(TSynLevel.mk (mput (mput (mput ([]:List (List UInt8×Int)) [42] 8) [47] 9) [37] 10) false)]:List TSynLevel)) hS (Rw.cons (α:=TSynLevel) (cs:=[.map (some b4),.bool false]) ⟨b4,rfl,(m53.up (le56.t (le58.t (le60.t le62))))⟩ (Rw.cons (α:=TSynLevel) (cs:=[.map (some b9),.bool false]) ⟨b9,rfl,(m55.up (le58.t (le60.t le62)))⟩ (Rw.cons (α:=TSynLevel) (cs:=[.map (some b14),.bool true]) ⟨b14,rfl,(m57.up (le60.t le62))⟩ (Rw.cons (α:=TSynLevel) (cs:=[.map (some b34),.bool false]) ⟨b34,rfl,(m59.up le62)⟩ (Rw.cons (α:=TSynLevel) (cs:=[.map (some b42),.bool false]) ⟨b42,rfl,m61⟩ Rw.nil))))) (Nat.le_of_ble_eq_true rfl)
  obtain rfl:=oI h
  refine ret1 rfl d0 ?_
  exact ⟨_,(some ⟨b63,0,none⟩),5,rfl,(le54.t (le56.t (le58.t (le60.t (le62.t le66))))),hS,m65⟩
theorem p_into_w {μ0:M} {w0 w:World} {rsF:List Res} (hg:Le Gm μ0) {b1:Nat} {left_2:List TToken} {a3:Option Addr} {c4:Nat} {end_6:Int} {deep_7:Int} {r:Except TFault (List TToken×Int×Int)} (m5:Sl μ0 a3 c4 left_2) (h:p_into left_2 end_6 deep_7=some r) (hS:Sq μ0 w0 w (.blk b1 49 [.slice a3 left_2.length c4,.int .i64 end_6,.int .i64 deep_7]::rsF)):CallsT Tryd.prog 36 [.pointer (some ⟨b1,0,none⟩)] w Voops r (fun x v w'=>∃ (μ':M) (b8:Nat) (a9:Option Addr) (c10:Nat),v=.func (.func 49) ⟨[]⟩ ⟨[.pointer (some ⟨b8,0,none⟩)]⟩∧Le μ0 μ'∧Sq μ' w0 w' (.blk b8 47 [.pointer (some ⟨b1,0,none⟩)]::.blk b1 49 [.slice a9 x.1.length c10,.int .i64 x.2.1,.int .i64 x.2.2]::rsF)∧Sl μ' a9 c10 x.1) (EP μ0 w0 b1 49 rsF):=by
  unfold p_into at h
  refine enterT Tryd.func36 rfl (frm:=[_,_,_,_,_,_,_,_,_,_,_,_,_,_,_,_,_,_,_,_]) rfl ?_
  refine cseq ?_
  refine creg ?_
  refine wl (s_box (et d0) rfl hS ?_); clear hS; intro b12 w1 hb13 hS; refine pu (dt p1) ?_
  refine wl (s_assign ec (dt p2) ?_)
  refine wnil ?_
  refine xn ?_
  refine cseq ?_
  refine cseq ?_
  refine creg ?_
  refine wl (s_load ti47 (et d1) ((hS.blk d0).cell d0) (dt p3) ?_)
  refine wl (s_nilck (et d3) (dt p4) ?_)
  refine wl (s_fa fa49_2 (et d4) rfl (dt p5) ?_)
  refine wl (s_load ti3 (et d5) ((hS.blk d1).cell d2) (dt p6) ?_)
  replace h:=bI h; obtain ⟨i14,g15,h⟩:=h
  refine wl (s_addc (et d6) ec g15 (dt p7) ?_)
  refine wl (s_nilck (et d3) (dt p8) ?_)
  refine wl (s_fa fa49_2 (et d8) rfl (dt p9) ?_)
  refine wl (s_store1 ti3 (et d9) (et d7) rfl hS d1 p2 rfl p1 dn ?_)
  clear hS; intro w2 hS
  refine wnil ?_
  refine xn ?_
  refine cseq ?_
  refine creg ?_
  refine wl (s_load ti47 (et d1) ((hS.blk d0).cell d0) (dt (q10 p0)) ?_)
  refine wl (s_nilck (et (k10 d0)) (dt (q10 p1)) ?_)
  refine wl (s_fa fa49_2 (et (k10 d1)) rfl (dt (q10 p2)) ?_)
  refine wl (s_load ti3 (et (k10 d2)) ((hS.blk d1).cell d2) (dt (q10 p3)) ?_)
  refine wl (s_gtr (et (k10 d3)) ec (dt (q10 p4)) ?_)
  refine wnil ?_
  refine xn ?_
  refine cifd (et (k10 d4)) (fun h16=>?_) (fun h16=>?_)
  · replace h:=iT h16 h
    refine cdraw (by kernel_rfl) rfl fun w3 hh_ ho_ ht_ hu_=>?_
    replace hS:=hS.drew hh_ ho_ ht_ hu_
    refine sf_start ?_
    refine sf_rd (i:=0) [0,3] (fun _ _ _ _ _ h=>h) rfl rfl rfl (u_load ti47 (et d1) ((hS.blk d0).cell d0)) (q10 p5) ?_
    refine sf_rd (i:=1) [1,2,3] (fun _ _ _ _ _ h=>h) rfl rfl rfl (u_load ti47 (et d1) ((hS.blk d0).cell d0)) (q10 p6) ?_
    replace h:=bI h; obtain ⟨r17,g18,h⟩:=h
    replace hS:=hS.bg (Bg.s Bg.z)
    refine sf1 rfl rfl rfl rfl (wn0 rfl) (s_callv isfn10 ef (e1 (et (k10 d6)) e0) (p_at_w hg m5 g18 hS) ?_)
    rintro _ w4 ⟨μ1,rfl,le19,hS⟩
    refine pu (dt (q10 p7)) ?_
    refine ⟨(Mons.s (u_load ti47 (et d1) ((hS.blk d1).cell d0)) Mons.z),?_⟩
    obtain rfl:=oI h
    refine sf1 rfl rfl rfl rfl (wn0 rfl) (s_callte isfn9 ef (e1 (et (k10 d5)) (e1 ec (e1 (et (k10 d7)) e0))) (p_fail_w (R:=fun (_:Unit) _ _=>True) hS) ?_)
    rintro w_ ⟨μ_,v0_,v1_,i_,le_,hS⟩
    replace hS:=Sep.dropL (l:=[_]) hS
    exact thN (P:=Tryd.prog) (fn:=Tryd.f36) ⟨_,_,_,_,(le19.t le_),hS⟩
  · replace h:=iF h16 h
    refine cskip ?_
    refine xn ?_
    refine cseq ?_
    refine creg ?_
    refine wl (s_mkfn e0 (e1 (et d1) e0) (dt (q10 p9)) ?_)
    refine wl (s_assign (et (k10 d9)) (dt p2) ?_)
    refine wnil ?_
    refine xn ?_
    refine cret ?_
    obtain rfl:=oI h
    refine okT ?_
    refine ret1 rfl d2 ?_
    exact ⟨_,b12,a3,c4,rfl,Le.r,hS,m5⟩
theorem p_out_w {μ0:M} {w0 w:World} {rsF:List Res} (hg:Le Gm μ0) {b1:Nat} {b2:Nat} {left_3:List TToken} {a4:Option Addr} {c5:Nat} {end_7:Int} {deep_8:Int} {r:List TToken×Int×Int} (m6:Sl μ0 a4 c5 left_3) (h:p_out left_3 end_7 deep_8=some r) (hS:Sq μ0 w0 w (.blk b1 47 [.pointer (some ⟨b2,0,none⟩)]::.blk b2 49 [.slice a4 left_3.length c5,.int .i64 end_7,.int .i64 deep_8]::rsF)):CallsDV Tryd.prog 49 [.pointer (some ⟨b1,0,none⟩)] w (fun v w'=>∃ (μ':M) (a9:Option Addr) (c10:Nat),v=.tuple ⟨[]⟩∧Le μ0 μ'∧Sq μ' w0 w' (.blk b1 47 [.pointer (some ⟨b2,0,none⟩)]::.blk b2 49 [.slice a9 r.1.length c10,.int .i64 r.2.1,.int .i64 r.2.2]::rsF)∧Sl μ' a9 c10 r.1):=by
  unfold p_out at h
  refine enterDD Tryd.func49 rfl (frm:=[_,_,_,_,_,_,_,_]) rfl ?_
  refine creg ?_
  refine wl (s_load ti47 (et d0) ((hS.blk d0).cell d0) (dt p1) ?_)
  refine wl (s_nilck (et d1) (dt p2) ?_)
  refine wl (s_fa fa49_2 (et d2) rfl (dt p3) ?_)
  refine wl (s_load ti3 (et d3) ((hS.blk d1).cell d2) (dt p4) ?_)
  replace h:=bI h; obtain ⟨i12,g13,h⟩:=h
  refine wl (s_subc (et d4) ec g13 (dt p5) ?_)
  refine wl (s_nilck (et d1) (dt p6) ?_)
  refine wl (s_fa fa49_2 (et d6) rfl (dt p7) ?_)
  refine wl (s_store1 ti3 (et d7) (et d5) rfl hS d1 p2 rfl p1 dn ?_)
  clear hS; intro w1 hS
  refine wnil ?_
  obtain rfl:=oI h
  refine end0 rfl ?_
  exact ⟨_,a4,c5,rfl,Le.r,hS,m6⟩
end Go.Proofs.YtbdiobhgejmgoaaDoor
