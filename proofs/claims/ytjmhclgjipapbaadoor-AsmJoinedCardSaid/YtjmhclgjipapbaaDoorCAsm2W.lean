/- Walks. -/
import Derived.Test.YtjmhclgjipapbaaDoorCAsm2M
import Derived.Test.YtjmhclgjipapbaaDoorCAsmW
set_option linter.unusedSectionVars false
set_option linter.unusedSimpArgs false
set_option linter.unusedVariables false
set_option maxRecDepth 100000
set_option maxHeartbeats 20000000
namespace Go.Proofs.YtjmhclgjipapbaaDoor
open Go.Wk Go.Xt Go.Y
theorem asm_alive_w {fu : Nat} {μ0 : M} {w0 w : World} {rsF : List Res} (hg : Le Gm μ0)  {r : Bool}  (h : asm_alive fu  = some r) (hS : Sq μ0 w0 w (rsF)) : CallsV Tryd.prog 6 [] w (fun v w' => ∃ (μ' : M) , v = .bool r ∧ Le μ0 μ' ∧ Sq μ' w0 w' (rsF)) := by
  unfold asm_alive at h
  refine enter Tryd.func6 rfl (frm := [_, _, _, _, _, _, _, _, _, _, _, _, _, _, _, _, _, _, _, _, _, _, _, _, _, _, _, _, _, _, _, _, _, _, _, _, _, _, _, _, _, _]) rfl ?_
  refine cseq ?_
  refine creg ?_
  refine wl (s_assign ec (dt p0) ?_)
  refine wnil ?_
  refine xn ?_
  refine cseq ?_
  refine creg ?_
  replace h := bI h; obtain ⟨r1, g2, h⟩ := h
  refine wl (s_callv isfn7 ef (e1 ec e0) (asm_read_w hg g2 hS) ?_)
  rintro _ w1 ⟨μ1, a4, c5, a7, c8, rfl, le3, hS, m6, m9⟩
  refine pu (dt p4) ?_
  refine wl (s_move (et d4) (dt p3) ?_)
  refine wl (s_extr (et d3) d0 (dt p5) ?_)
  refine wl (s_extr (et d3) d1 (dt p6) ?_)
  refine wl (s_alloc ti26 hS ?_); clear hS; intro b10 w2 hb11 hS; refine pu (dt p1) ?_
  refine wl (s_alloc ti29 hS ?_); clear hS; intro b12 w3 hb13 hS; refine pu (dt p2) ?_
  refine wl (s_storeA ti26 (et d1) (et d5) rfl rfl hS d1 rfl p1 dn ?_)
  clear hS; intro w4 hS
  refine wl (s_storeA ti29 (et d2) (et d6) rfl rfl hS d0 rfl p0 dn ?_)
  clear hS; intro w5 hS
  refine wnil ?_
  refine xn ?_
  refine cseq ?_
  refine creg ?_
  refine wl (s_fa fa29_0 (et d2) rfl (dt p7) ?_)
  refine wl (s_load ti27 (et d7) ((hS.blk d0).cell d0) (dt p8) ?_)
  refine wl (s_eqi (et d8) ec (dt p9) ?_)
  refine wl (s_move (et d9) (dt (q10 p0)) ?_)
  refine wspd (k10 d0) (q10 p0) (q10 p0) (fun h14 => ?_) (fun h14 => ?_)
  · replace h := iT h14 h
    refine wy rfl (k10 d0) (s_fa fa26_0 (et d1) rfl (dt (q10 p1)) ?_)
    refine wy rfl (k10 d0) (s_load ti23 (et (k10 d1)) ((hS.blk d1).cell d0) (dt (q10 p2)) ?_)
    refine wy rfl (k10 d0) (s_lensl Tryd.underlying23 (et (k10 d2)) (dt (q10 p3)) ?_)
    refine wy rfl (k10 d0) (s_eqi (et (k10 d3)) ec (dt (q10 p4)) ?_)
    refine wl (s_pickt (et (k10 d0)) (et (k10 d4)) (dt (q10 p5)) ?_)
    refine wl (s_move (et (k10 d5)) (dt (q10 p6)) ?_)
    refine wspd (k10 d6) (q10 p6) (q10 p6) (fun h15 => ?_) (fun h15 => ?_)
    · replace h := iT h15 h
      refine wy rfl (k10 d6) (s_fa fa26_1 (et d1) rfl (dt (q10 p7)) ?_)
      refine wy rfl (k10 d6) (s_load ti24 (et (k10 d7)) ((hS.blk d1).cell d1) (dt (q10 p8)) ?_)
      refine wy rfl (k10 d6) (s_lensl Tryd.underlying24 (et (k10 d8)) (dt (q10 p9)) ?_)
      refine wy rfl (k10 d6) (s_eqi (et (k10 d9)) ec (dt (q20 p0)) ?_)
      refine wl (s_pickt (et (k10 d6)) (et (k20 d0)) (dt (q20 p1)) ?_)
      refine wl (s_move (et (k20 d1)) (dt (q20 p2)) ?_)
      refine wspd (k20 d2) (q20 p2) (q20 p2) (fun h16 => ?_) (fun h16 => ?_)
      · replace h := iT h16 h
        refine wy rfl (k20 d2) (s_fa fa26_1 (et d1) rfl (dt (q20 p3)) ?_)
        refine wy rfl (k20 d2) (s_load ti24 (et (k20 d3)) ((hS.blk d1).cell d1) (dt (q20 p4)) ?_)
        replace h := bI h; obtain ⟨x17, g18, h⟩ := h
        obtain ⟨b19, o20, cs21, e22, f23, m24⟩ := SlR.elem m9 g18
        obtain ⟨a25, c26, a28, c29, rfl, m27, m30⟩ := m24
        refine wy rfl (k20 d2) (s_iax Tryd.underlying24 ti43 (et (k20 d4)) ec e22 (dt (q20 p5)) ?_)
        refine wy rfl (k20 d2) (s_fa fa43_5 (et (k20 d5)) rfl (dt (q20 p6)) ?_)
        refine wy rfl (k20 d2) (s_load ti41 (et (k20 d6)) ((f23 _ hS.a).one d5) (dt (q20 p7)) ?_)
        refine wy rfl (k20 d2) (s_lensl Tryd.underlying41 (et (k20 d7)) (dt (q20 p8)) ?_)
        refine wy rfl (k20 d2) (s_eqi (et (k20 d8)) ec (dt (q20 p9)) ?_)
        refine wl (s_pickt (et (k20 d2)) (et (k20 d9)) (dt (q30 p0)) ?_)
        refine wl (s_move (et (k30 d0)) (dt (q30 p1)) ?_)
        refine wspd (k30 d1) (q30 p1) (q30 p1) (fun h31 => ?_) (fun h31 => ?_)
        · replace h := iT h31 h
          refine wy rfl (k30 d1) (s_fa fa26_1 (et d1) rfl (dt (q30 p2)) ?_)
          refine wy rfl (k30 d1) (s_load ti24 (et (k30 d2)) ((hS.blk d1).cell d1) (dt (q30 p3)) ?_)
          replace h := bI h; obtain ⟨x32, g33, h⟩ := h
          obtain ⟨b34, o35, cs36, e37, f38, m39⟩ := SlR.elem m9 g33
          obtain ⟨a40, c41, a43, c44, rfl, m42, m45⟩ := m39
          refine wy rfl (k30 d1) (s_iax Tryd.underlying24 ti43 (et (k30 d3)) ec e37 (dt (q30 p4)) ?_)
          refine wy rfl (k30 d1) (s_fa fa43_5 (et (k30 d4)) rfl (dt (q30 p5)) ?_)
          refine wy rfl (k30 d1) (s_load ti41 (et (k30 d5)) ((f38 _ hS.a).one d5) (dt (q30 p6)) ?_)
          replace h := bI h; obtain ⟨x46, g47, h⟩ := h
          obtain ⟨b48, o49, cs50, e51, f52, m53⟩ := SlR.elem m45 g47
          obtain rfl := m53
          refine wy rfl (k30 d1) (s_iax Tryd.underlying41 ti45 (et (k30 d6)) ec e51 (dt (q30 p7)) ?_)
          refine wy rfl (k30 d1) (s_fa fa45_2 (et (k30 d7)) rfl (dt (q30 p8)) ?_)
          refine wy rfl (k30 d1) (s_load ti2 (et (k30 d8)) ((f52 _ hS.a).one d2) (dt (q30 p9)) ?_)
          refine wy rfl (k30 d1) (s_eqi (et (k30 d9)) ec (dt (q40 p0)) ?_)
          refine wl (s_pickt (et (k30 d1)) (et (k40 d0)) (dt (q40 p1)) ?_)
          refine wl (s_assign (et (k40 d1)) (dt p0) ?_)
          refine wnil ?_
          refine xn ?_
          refine cret ?_
          obtain rfl := Option.some.inj h
          refine ret1 rfl d0 ?_
          replace hS := hS.drop Rm.z
          replace hS := hS.drop Rm.z
          exact ⟨_, rfl, le3, hS⟩
        · replace h := iF h31 h
          refine wn rfl (k30 d1) rfl (dt (q30 p2)) ?_
          refine wn rfl (k30 d1) rfl (dt (q30 p3)) ?_
          refine wn rfl (k30 d1) rfl (dt (q30 p4)) ?_
          refine wn rfl (k30 d1) rfl (dt (q30 p5)) ?_
          refine wn rfl (k30 d1) rfl (dt (q30 p6)) ?_
          refine wn rfl (k30 d1) rfl (dt (q30 p7)) ?_
          refine wn rfl (k30 d1) rfl (dt (q30 p8)) ?_
          refine wn rfl (k30 d1) rfl (dt (q30 p9)) ?_
          refine wn rfl (k30 d1) rfl (dt (q40 p0)) ?_
          refine wl (s_pickf (et (k30 d1)) ec (dt (q40 p1)) ?_)
          refine wl (s_assign (et (k40 d1)) (dt p0) ?_)
          refine wnil ?_
          refine xn ?_
          refine cret ?_
          obtain rfl := Option.some.inj h
          refine ret1 rfl d0 ?_
          replace hS := hS.drop Rm.z
          replace hS := hS.drop Rm.z
          exact ⟨_, rfl, le3, hS⟩
      · replace h := iF h16 h
        refine wn rfl (k20 d2) rfl (dt (q20 p3)) ?_
        refine wn rfl (k20 d2) rfl (dt (q20 p4)) ?_
        refine wn rfl (k20 d2) rfl (dt (q20 p5)) ?_
        refine wn rfl (k20 d2) rfl (dt (q20 p6)) ?_
        refine wn rfl (k20 d2) rfl (dt (q20 p7)) ?_
        refine wn rfl (k20 d2) rfl (dt (q20 p8)) ?_
        refine wn rfl (k20 d2) rfl (dt (q20 p9)) ?_
        refine wl (s_pickf (et (k20 d2)) ec (dt (q30 p0)) ?_)
        refine wl (s_move (et (k30 d0)) (dt (q30 p1)) ?_)
        refine wn rfl (k30 d1) rfl (dt (q30 p2)) ?_
        refine wn rfl (k30 d1) rfl (dt (q30 p3)) ?_
        refine wn rfl (k30 d1) rfl (dt (q30 p4)) ?_
        refine wn rfl (k30 d1) rfl (dt (q30 p5)) ?_
        refine wn rfl (k30 d1) rfl (dt (q30 p6)) ?_
        refine wn rfl (k30 d1) rfl (dt (q30 p7)) ?_
        refine wn rfl (k30 d1) rfl (dt (q30 p8)) ?_
        refine wn rfl (k30 d1) rfl (dt (q30 p9)) ?_
        refine wn rfl (k30 d1) rfl (dt (q40 p0)) ?_
        refine wl (s_pickf (et (k30 d1)) ec (dt (q40 p1)) ?_)
        refine wl (s_assign (et (k40 d1)) (dt p0) ?_)
        refine wnil ?_
        refine xn ?_
        refine cret ?_
        obtain rfl := Option.some.inj h
        refine ret1 rfl d0 ?_
        replace hS := hS.drop Rm.z
        replace hS := hS.drop Rm.z
        exact ⟨_, rfl, le3, hS⟩
    · replace h := iF h15 h
      refine wn rfl (k10 d6) rfl (dt (q10 p7)) ?_
      refine wn rfl (k10 d6) rfl (dt (q10 p8)) ?_
      refine wn rfl (k10 d6) rfl (dt (q10 p9)) ?_
      refine wn rfl (k10 d6) rfl (dt (q20 p0)) ?_
      refine wl (s_pickf (et (k10 d6)) ec (dt (q20 p1)) ?_)
      refine wl (s_move (et (k20 d1)) (dt (q20 p2)) ?_)
      refine wn rfl (k20 d2) rfl (dt (q20 p3)) ?_
      refine wn rfl (k20 d2) rfl (dt (q20 p4)) ?_
      refine wn rfl (k20 d2) rfl (dt (q20 p5)) ?_
      refine wn rfl (k20 d2) rfl (dt (q20 p6)) ?_
      refine wn rfl (k20 d2) rfl (dt (q20 p7)) ?_
      refine wn rfl (k20 d2) rfl (dt (q20 p8)) ?_
      refine wn rfl (k20 d2) rfl (dt (q20 p9)) ?_
      refine wl (s_pickf (et (k20 d2)) ec (dt (q30 p0)) ?_)
      refine wl (s_move (et (k30 d0)) (dt (q30 p1)) ?_)
      refine wn rfl (k30 d1) rfl (dt (q30 p2)) ?_
      refine wn rfl (k30 d1) rfl (dt (q30 p3)) ?_
      refine wn rfl (k30 d1) rfl (dt (q30 p4)) ?_
      refine wn rfl (k30 d1) rfl (dt (q30 p5)) ?_
      refine wn rfl (k30 d1) rfl (dt (q30 p6)) ?_
      refine wn rfl (k30 d1) rfl (dt (q30 p7)) ?_
      refine wn rfl (k30 d1) rfl (dt (q30 p8)) ?_
      refine wn rfl (k30 d1) rfl (dt (q30 p9)) ?_
      refine wn rfl (k30 d1) rfl (dt (q40 p0)) ?_
      refine wl (s_pickf (et (k30 d1)) ec (dt (q40 p1)) ?_)
      refine wl (s_assign (et (k40 d1)) (dt p0) ?_)
      refine wnil ?_
      refine xn ?_
      refine cret ?_
      obtain rfl := Option.some.inj h
      refine ret1 rfl d0 ?_
      replace hS := hS.drop Rm.z
      replace hS := hS.drop Rm.z
      exact ⟨_, rfl, le3, hS⟩
  · replace h := iF h14 h
    refine wn rfl (k10 d0) rfl (dt (q10 p1)) ?_
    refine wn rfl (k10 d0) rfl (dt (q10 p2)) ?_
    refine wn rfl (k10 d0) rfl (dt (q10 p3)) ?_
    refine wn rfl (k10 d0) rfl (dt (q10 p4)) ?_
    refine wl (s_pickf (et (k10 d0)) ec (dt (q10 p5)) ?_)
    refine wl (s_move (et (k10 d5)) (dt (q10 p6)) ?_)
    refine wn rfl (k10 d6) rfl (dt (q10 p7)) ?_
    refine wn rfl (k10 d6) rfl (dt (q10 p8)) ?_
    refine wn rfl (k10 d6) rfl (dt (q10 p9)) ?_
    refine wn rfl (k10 d6) rfl (dt (q20 p0)) ?_
    refine wl (s_pickf (et (k10 d6)) ec (dt (q20 p1)) ?_)
    refine wl (s_move (et (k20 d1)) (dt (q20 p2)) ?_)
    refine wn rfl (k20 d2) rfl (dt (q20 p3)) ?_
    refine wn rfl (k20 d2) rfl (dt (q20 p4)) ?_
    refine wn rfl (k20 d2) rfl (dt (q20 p5)) ?_
    refine wn rfl (k20 d2) rfl (dt (q20 p6)) ?_
    refine wn rfl (k20 d2) rfl (dt (q20 p7)) ?_
    refine wn rfl (k20 d2) rfl (dt (q20 p8)) ?_
    refine wn rfl (k20 d2) rfl (dt (q20 p9)) ?_
    refine wl (s_pickf (et (k20 d2)) ec (dt (q30 p0)) ?_)
    refine wl (s_move (et (k30 d0)) (dt (q30 p1)) ?_)
    refine wn rfl (k30 d1) rfl (dt (q30 p2)) ?_
    refine wn rfl (k30 d1) rfl (dt (q30 p3)) ?_
    refine wn rfl (k30 d1) rfl (dt (q30 p4)) ?_
    refine wn rfl (k30 d1) rfl (dt (q30 p5)) ?_
    refine wn rfl (k30 d1) rfl (dt (q30 p6)) ?_
    refine wn rfl (k30 d1) rfl (dt (q30 p7)) ?_
    refine wn rfl (k30 d1) rfl (dt (q30 p8)) ?_
    refine wn rfl (k30 d1) rfl (dt (q30 p9)) ?_
    refine wn rfl (k30 d1) rfl (dt (q40 p0)) ?_
    refine wl (s_pickf (et (k30 d1)) ec (dt (q40 p1)) ?_)
    refine wl (s_assign (et (k40 d1)) (dt p0) ?_)
    refine wnil ?_
    refine xn ?_
    refine cret ?_
    obtain rfl := Option.some.inj h
    refine ret1 rfl d0 ?_
    replace hS := hS.drop Rm.z
    replace hS := hS.drop Rm.z
    exact ⟨_, rfl, le3, hS⟩

theorem asm_joined_w {fu : Nat} {μ0 : M} {w0 w : World} {rsF : List Res} (hg : Le Gm μ0) {p_1 : List UInt8} {p_2 : List UInt8} {r : Bool}  (h : asm_joined fu p_1 p_2 = some r) (hS : Sq μ0 w0 w (rsF)) : CallsV Tryd.prog 3 [S p_1, S p_2] w (fun v w' => ∃ (μ' : M) , v = .bool r ∧ Le μ0 μ' ∧ Sq μ' w0 w' (rsF)) := by
  unfold asm_joined at h
  refine enter Tryd.func3 rfl (frm := [_, _, _, _, _, _, _, _, _, _, _, _, _, _, _, _, _, _, _, _, _, _, _, _, _, _, _, _, _, _, _, _, _, _, _, _, _, _, _, _, _, _, _, _, _, _, _, _, _, _, _, _, _, _, _, _, _, _, _, _, _, _, _, _, _, _, _, _, _]) rfl ?_
  refine cseq ?_
  refine creg ?_
  refine wl (s_assign ec (dt p4) ?_)
  refine wnil ?_
  refine xn ?_
  refine cseq ?_
  refine cseq ?_
  refine creg ?_
  replace h := bI h; obtain ⟨r1, g2, h⟩ := h
  refine wl (s_callv isfn6 ef e0 (asm_alive_w hg g2 hS) ?_)
  rintro _ w1 ⟨μ1, rfl, le3, hS⟩
  refine pu (dt (q10 p1)) ?_
  refine wl (s_not (et (k10 d1)) (dt (q10 p2)) ?_)
  refine wnil ?_
  refine xn ?_
  refine cifnb (et (k10 d2)) (fun h4 => ?_) (fun h4 => ?_)
  · replace h := iF h4 h
    refine cseq ?_
    refine creg ?_
    refine wl (s_assign ec (dt p4) ?_)
    refine wnil ?_
    refine xn ?_
    refine cret ?_
    refine xr ?_
    obtain rfl := Option.some.inj h
    refine ret1 rfl d4 ?_
    exact ⟨_, rfl, le3, hS⟩
  · replace h := iT h4 h
    refine cskip ?_
    refine xn ?_
    refine cseq ?_
    refine creg ?_
    refine wl (s_move (et d0) (dt (q10 p4)) ?_)
    replace h := bI h; obtain ⟨r5, g6, h⟩ := h
    refine wl (s_callv isfn7 ef (e1 (et (k10 d4)) e0) (asm_read_w (hg.t le3) g6 hS) ?_)
    rintro _ w2 ⟨μ2, a8, c9, a11, c12, rfl, le7, hS, m10, m13⟩
    refine pu (dt (q10 p5)) ?_
    refine wl (s_move (et (k10 d5)) (dt (q10 p3)) ?_)
    refine wl (s_extr (et (k10 d3)) d0 (dt (q10 p6)) ?_)
    refine wl (s_extr (et (k10 d3)) d1 (dt (q10 p7)) ?_)
    refine wl (s_alloc ti26 hS ?_); clear hS; intro b14 w3 hb15 hS; refine pu (dt p5) ?_
    refine wl (s_alloc ti29 hS ?_); clear hS; intro b16 w4 hb17 hS; refine pu (dt p6) ?_
    refine wl (s_storeA ti26 (et d5) (et (k10 d6)) rfl rfl hS d1 rfl p1 dn ?_)
    clear hS; intro w5 hS
    refine wl (s_storeA ti29 (et d6) (et (k10 d7)) rfl rfl hS d0 rfl p0 dn ?_)
    clear hS; intro w6 hS
    refine wnil ?_
    refine xn ?_
    refine cseq ?_
    refine creg ?_
    refine wl (s_move (et d1) (dt (q10 p9)) ?_)
    replace h := bI h; obtain ⟨r18, g19, h⟩ := h
    refine wl (s_callv isfn7 ef (e1 (et (k10 d9)) e0) (asm_read_w (hg.t (le3.t le7)) g19 hS) ?_)
    rintro _ w7 ⟨μ3, a21, c22, a24, c25, rfl, le20, hS, m23, m26⟩
    refine pu (dt (q20 p0)) ?_
    refine wl (s_move (et (k20 d0)) (dt (q10 p8)) ?_)
    refine wl (s_extr (et (k10 d8)) d0 (dt (q20 p1)) ?_)
    refine wl (s_extr (et (k10 d8)) d1 (dt (q20 p2)) ?_)
    refine wl (s_alloc ti26 hS ?_); clear hS; intro b27 w8 hb28 hS; refine pu (dt p7) ?_
    refine wl (s_alloc ti29 hS ?_); clear hS; intro b29 w9 hb30 hS; refine pu (dt p8) ?_
    refine wl (s_storeA ti26 (et d7) (et (k20 d1)) rfl rfl hS d1 rfl p1 dn ?_)
    clear hS; intro w10 hS
    refine wl (s_storeA ti29 (et d8) (et (k20 d2)) rfl rfl hS d0 rfl p0 dn ?_)
    clear hS; intro w11 hS
    refine wnil ?_
    refine xn ?_
    refine cseq ?_
    refine cseq ?_
    refine ccutE (List.range' 23 21) (by decide +kernel) (fun m w => ∃ (μx : M) (b31 : Bool), m = (yK20 (yK3 (yO20 23 (yO1 43 (.i (.bool b31) :: []))))) ∧ asm_joined_j1 fu p_1 p_2 r5 r18 b31 = some r ∧ Le μ3 μx ∧ Sq μx w0 w (.blk b14 26 [.slice a8 r5.1.Boxes.length c9, .slice a11 r5.1.Units.length c12] :: .blk b27 26 [.slice a21 r18.1.Boxes.length c22, .slice a24 r18.1.Units.length c25] :: rsF)) (by rintro _ _ ⟨_, _, rfl, _⟩; rfl) ?_ ?_
    · refine creg ?_
      refine wl (s_fa fa29_0 (et d6) rfl (dt (q20 p3)) ?_)
      refine wl (s_load ti27 (et (k20 d3)) ((hS.blk d2).cell d0) (dt (q20 p4)) ?_)
      refine wl (s_nei (et (k20 d4)) ec (dt (q20 p5)) ?_)
      refine wl (s_move (et (k20 d5)) (dt (q20 p6)) ?_)
      refine wspd (k20 d6) (q20 p6) (q20 p6) (fun h32 => ?_) (fun h32 => ?_)
      · replace h := iT h32 h
        refine wn rfl (k20 d6) rfl (dt (q20 p7)) ?_
        refine wn rfl (k20 d6) rfl (dt (q20 p8)) ?_
        refine wn rfl (k20 d6) rfl (dt (q20 p9)) ?_
        refine wl (s_pickt (et (k20 d6)) ec (dt (q30 p0)) ?_)
        refine wl (s_move (et (k30 d0)) (dt (q30 p1)) ?_)
        refine wn rfl (k30 d1) rfl (dt (q30 p2)) ?_
        refine wn rfl (k30 d1) rfl (dt (q30 p3)) ?_
        refine wn rfl (k30 d1) rfl (dt (q30 p4)) ?_
        refine wn rfl (k30 d1) rfl (dt (q30 p5)) ?_
        refine wl (s_pickt (et (k30 d1)) ec (dt (q30 p6)) ?_)
        refine wl (s_move (et (k30 d6)) (dt (q30 p7)) ?_)
        refine wn rfl (k30 d7) rfl (dt (q30 p8)) ?_
        refine wn rfl (k30 d7) rfl (dt (q30 p9)) ?_
        refine wn rfl (k30 d7) rfl (dt (q40 p0)) ?_
        refine wn rfl (k30 d7) rfl (dt (q40 p1)) ?_
        refine wn rfl (k30 d7) rfl (dt (q40 p2)) ?_
        refine wn rfl (k30 d7) rfl (dt (q40 p3)) ?_
        refine wl (s_pickt (et (k30 d7)) ec (dt (q40 p4)) ?_)
        refine wnil ?_
        refine xl ?_
        replace hS := hS.drop Rm.z
        replace hS := hS.drop (Rm.s Rm.z)
        replace hS := hS.bg (Bg.s Bg.z)
        exact ⟨_, _, rfl, (aK20 (aK3 (aO20 (aO1 (aI aZ))))), _, true, rfl, h, Le.r, hS⟩
      · replace h := iF h32 h
        refine wy rfl (k20 d6) (s_fa fa29_0 (et d8) rfl (dt (q20 p7)) ?_)
        refine wy rfl (k20 d6) (s_load ti27 (et (k20 d7)) ((hS.blk d0).cell d0) (dt (q20 p8)) ?_)
        refine wy rfl (k20 d6) (s_nei (et (k20 d8)) ec (dt (q20 p9)) ?_)
        refine wl (s_pickf (et (k20 d6)) (et (k20 d9)) (dt (q30 p0)) ?_)
        refine wl (s_move (et (k30 d0)) (dt (q30 p1)) ?_)
        refine wspd (k30 d1) (q30 p1) (q30 p1) (fun h33 => ?_) (fun h33 => ?_)
        · replace h := iT h33 h
          refine wn rfl (k30 d1) rfl (dt (q30 p2)) ?_
          refine wn rfl (k30 d1) rfl (dt (q30 p3)) ?_
          refine wn rfl (k30 d1) rfl (dt (q30 p4)) ?_
          refine wn rfl (k30 d1) rfl (dt (q30 p5)) ?_
          refine wl (s_pickt (et (k30 d1)) ec (dt (q30 p6)) ?_)
          refine wl (s_move (et (k30 d6)) (dt (q30 p7)) ?_)
          refine wn rfl (k30 d7) rfl (dt (q30 p8)) ?_
          refine wn rfl (k30 d7) rfl (dt (q30 p9)) ?_
          refine wn rfl (k30 d7) rfl (dt (q40 p0)) ?_
          refine wn rfl (k30 d7) rfl (dt (q40 p1)) ?_
          refine wn rfl (k30 d7) rfl (dt (q40 p2)) ?_
          refine wn rfl (k30 d7) rfl (dt (q40 p3)) ?_
          refine wl (s_pickt (et (k30 d7)) ec (dt (q40 p4)) ?_)
          refine wnil ?_
          refine xl ?_
          replace hS := hS.drop Rm.z
          replace hS := hS.drop (Rm.s Rm.z)
          replace hS := hS.bg (Bg.s Bg.z)
          exact ⟨_, _, rfl, (aK20 (aK3 (aO20 (aO1 (aI aZ))))), _, true, rfl, h, Le.r, hS⟩
        · replace h := iF h33 h
          refine wy rfl (k30 d1) (s_fa fa26_0 (et d7) rfl (dt (q30 p2)) ?_)
          refine wy rfl (k30 d1) (s_load ti23 (et (k30 d2)) ((hS.blk d1).cell d0) (dt (q30 p3)) ?_)
          refine wy rfl (k30 d1) (s_lensl Tryd.underlying23 (et (k30 d3)) (dt (q30 p4)) ?_)
          refine wy rfl (k30 d1) (s_gtr (et (k30 d4)) ec (dt (q30 p5)) ?_)
          refine wl (s_pickf (et (k30 d1)) (et (k30 d5)) (dt (q30 p6)) ?_)
          refine wl (s_move (et (k30 d6)) (dt (q30 p7)) ?_)
          refine wspd (k30 d7) (q30 p7) (q30 p7) (fun h34 => ?_) (fun h34 => ?_)
          · replace h := iT h34 h
            refine wn rfl (k30 d7) rfl (dt (q30 p8)) ?_
            refine wn rfl (k30 d7) rfl (dt (q30 p9)) ?_
            refine wn rfl (k30 d7) rfl (dt (q40 p0)) ?_
            refine wn rfl (k30 d7) rfl (dt (q40 p1)) ?_
            refine wn rfl (k30 d7) rfl (dt (q40 p2)) ?_
            refine wn rfl (k30 d7) rfl (dt (q40 p3)) ?_
            refine wl (s_pickt (et (k30 d7)) ec (dt (q40 p4)) ?_)
            refine wnil ?_
            refine xl ?_
            replace hS := hS.drop Rm.z
            replace hS := hS.drop (Rm.s Rm.z)
            replace hS := hS.bg (Bg.s Bg.z)
            exact ⟨_, _, rfl, (aK20 (aK3 (aO20 (aO1 (aI aZ))))), _, true, rfl, h, Le.r, hS⟩
          · replace h := iF h34 h
            refine wy rfl (k30 d7) (s_move (et d0) (dt (q30 p8)) ?_)
            refine wy rfl (k30 d7) (s_lens Tryd.underlying9 (et (k30 d8)) (dt (q30 p9)) ?_)
            refine wy rfl (k30 d7) (s_move (et d1) (dt (q40 p0)) ?_)
            refine wy rfl (k30 d7) (s_lens Tryd.underlying9 (et (k40 d0)) (dt (q40 p1)) ?_)
            replace h := bI h; obtain ⟨i35, g36, h⟩ := h
            refine wy rfl (k30 d7) (s_addc (et (k30 d9)) (et (k40 d1)) g36 (dt (q40 p2)) ?_)
            refine wy rfl (k30 d7) (s_gtr (et (k40 d2)) ec (dt (q40 p3)) ?_)
            refine wl (s_pickf (et (k30 d7)) (et (k40 d3)) (dt (q40 p4)) ?_)
            refine wnil ?_
            refine xl ?_
            replace hS := hS.drop Rm.z
            replace hS := hS.drop (Rm.s Rm.z)
            replace hS := hS.bg (Bg.s Bg.z)
            exact ⟨_, _, rfl, (aK20 (aK3 (aO20 (aO1 (aI aZ))))), _, (decide ((60000 : Int) < i35)), rfl, h, Le.r, hS⟩
    · rintro _ t w12 ⟨μ4, b31, rfl, h, le37, hS⟩
      unfold asm_joined_j1 at h
      refine nrm (mK20 (mK3 (mO20 (mO1 (mi mz))))) ?_
      refine xn ?_
      refine cifb (et (k40 d4)) (fun h38 => ?_) (fun h38 => ?_)
      · replace h := iT h38 h
        refine cseq ?_
        refine creg ?_
        refine wl (s_assign ec (dt p4) ?_)
        refine wnil ?_
        refine xn ?_
        refine cret ?_
        refine xr ?_
        obtain rfl := Option.some.inj h
        refine ret1 rfl d4 ?_
        replace hS := hS.drop Rm.z
        replace hS := hS.drop Rm.z
        exact ⟨_, rfl, (le3.t (le7.t (le20.t le37))), hS⟩
      · replace h := iF h38 h
        refine cskip ?_
        refine xn ?_
        refine cseq ?_
        refine creg ?_
        refine wl (s_move (et d0) (dt (q40 p6)) ?_)
        refine wl (s_move (et d1) (dt (q40 p7)) ?_)
        replace h := bI h; obtain ⟨s39, g40, h⟩ := h
        refine wl (s_catc (et (k40 d6)) (et (k40 d7)) g40 (dt (q40 p8)) ?_)
        replace h := bI h; obtain ⟨r41, g42, h⟩ := h
        refine wl (s_callv isfn7 ef (e1 (et (k40 d8)) e0) (asm_read_w (hg.t (le3.t (le7.t (le20.t le37)))) g42 hS) ?_)
        rintro _ w13 ⟨μ5, a44, c45, a47, c48, rfl, le43, hS, m46, m49⟩
        refine pu (dt (q40 p9)) ?_
        refine wl (s_move (et (k40 d9)) (dt (q40 p5)) ?_)
        refine wl (s_extr (et (k40 d5)) d0 (dt (q50 p0)) ?_)
        refine wl (s_extr (et (k40 d5)) d1 (dt (q50 p1)) ?_)
        refine wl (s_alloc ti26 hS ?_); clear hS; intro b50 w14 hb51 hS; refine pu (dt p9) ?_
        refine wl (s_alloc ti29 hS ?_); clear hS; intro b52 w15 hb53 hS; refine pu (dt (q10 p0)) ?_
        refine wl (s_storeA ti26 (et d9) (et (k50 d0)) rfl rfl hS d1 rfl p1 dn ?_)
        clear hS; intro w16 hS
        refine wl (s_storeA ti29 (et (k10 d0)) (et (k50 d1)) rfl rfl hS d0 rfl p0 dn ?_)
        clear hS; intro w17 hS
        refine wnil ?_
        refine xn ?_
        refine cseq ?_
        refine cdraw (by kernel_rfl) rfl fun w18 hh_ ho_ ht_ hu_ => ?_
        replace hS := hS.drew hh_ ho_ ht_ hu_
        refine sf_start ?_
        refine sf_pu (i := 0) [0, 1, 2, 3, 4, 5, 6, 7, 8, 9, 10, 11, 12, 13, 14, 15, 16, 17] (blind_of fun _ _ _ h => h.2) rfl rfl rfl (u_fa fa29_0 (et (k10 d0)) rfl) (q50 p2) ?_
        refine sf_rd (i := 1) [1, 2, 3, 4, 5, 6, 7, 8, 9, 10, 11, 12, 13, 14, 15, 16, 17] (blind_of fun _ _ _ h => h.2) rfl rfl rfl (u_load ti27 (et (k50 d2)) ((hS.blk d0).cell d0)) (q50 p3) ?_
        refine sf_pu (i := 2) [2, 3, 4, 5, 6, 7, 8, 9, 10, 11, 12, 13, 14, 15, 16, 17] (blind_of fun _ _ _ h => h.2) rfl rfl rfl (u_eqi (et (k50 d3)) ec) (q50 p4) ?_
        refine sf_pu (i := 3) [3, 4, 5, 6, 7, 8, 9, 10, 11, 12, 13, 14, 15, 16, 17] (blind_of fun _ _ _ h => h.2) rfl rfl rfl (u_move (et (k50 d4))) (q50 p5) ?_
        refine sfsd (k50 d5) (q50 p5) (q50 p5) (fun h54 => ?_) (fun h54 => ?_)
        · replace h := iT h54 h
          refine sf_rdY (i := 4) [4, 15, 16, 17] (blind_of fun _ _ _ h => h.2) rfl rfl rfl rfl (k50 d5) (u_loads ti26 (et d9) (hS.blk d1).cells rfl) (q50 p6) ?_
          refine sf_puY (i := 5) [5, 6, 14, 15, 16, 17] (blind_of fun _ _ _ h => h.2) rfl rfl rfl rfl (k50 d5) (u_fa fa26_0 (et d5) rfl) (q50 p7) ?_
          refine sf_rdY (i := 6) [6, 14, 15, 16, 17] (blind_of fun _ _ _ h => h.2) rfl rfl rfl rfl (k50 d5) (u_load ti23 (et (k50 d7)) ((hS.blk d2).cell d0)) (q50 p8) ?_
          refine sf_puY (i := 8) [8, 9, 10, 13, 14, 15, 16, 17] (blind_of fun _ _ _ h => h.2) rfl rfl rfl rfl (k50 d5) (u_fa fa26_1 (et d5) rfl) (q60 p0) ?_
          refine sf_rdY (i := 9) [9, 10, 13, 14, 15, 16, 17] (blind_of fun _ _ _ h => h.2) rfl rfl rfl rfl (k50 d5) (u_load ti24 (et (k60 d0)) ((hS.blk d2).cell d1)) (q60 p1) ?_
          refine sf_puY (i := 11) [11, 12, 13, 14, 15, 16, 17] (blind_of fun _ _ _ h => h.2) rfl rfl rfl rfl (k50 d5) (u_fa fa26_1 (et d7) rfl) (q60 p3) ?_
          refine sf_rdY (i := 12) [12, 13, 14, 15, 16, 17] (blind_of fun _ _ _ h => h.2) rfl rfl rfl rfl (k50 d5) (u_load ti24 (et (k60 d3)) ((hS.blk d3).cell d1)) (q60 p4) ?_
          refine sf1 rfl rfl rfl rfl (wanted_t rfl rfl (k50 d5)) (s_bsl0 Tryd.underlying24 ti43 hS ?_); clear hS; intro b55 w19 hb56 hS; refine pu (dt (q50 p9)) ?_
          refine ⟨(Mons.s (u_load ti24 (et (k60 d3)) ((hS.blk d4).cell d1)) (Mons.s (u_load ti24 (et (k60 d0)) ((hS.blk d3).cell d1)) (Mons.s (u_load ti23 (et (k50 d7)) ((hS.blk d3).cell d0)) (Mons.s (u_loads ti26 (et d9) (hS.blk d2).cells rfl) Mons.z)))), ?_⟩
          replace hS := hS.blkRow (n := 0) (sz := Mo.sz TUnit) d0 rfl (by decide) p0
          have m57 : Rw μ5 [] ([] : List TUnit) := Rw.nil
          replace h := bI h; obtain ⟨l60, g61, h⟩ := h
          obtain ⟨cs62, m63, m64⟩ := Sl.cells (m13.up (le20.t (le37.t le43)))
          have m59 := Rw.app m57 m63 g61
          refine sf1 rfl rfl rfl rfl (wanted_t rfl rfl (k50 d5)) (s_appS Tryd.underlying24 ti43 rfl (et (k50 d9)) (et (k60 d1)) hS d0 (fun e => (m64 e)) m63 g61 (by decide) ?_); clear hS; intro v58 w20 rs_ hp_ hS; cases (show _ = rs_ from hp_)
          replace hS := Sep.reput hS p0; refine pu (dt (q60 p2)) ?_
          refine ⟨(Mons.s (u_load ti24 (et (k60 d3)) ((hS.blk d4).cell d1)) (Mons.s (u_load ti23 (et (k50 d7)) ((hS.blk d3).cell d0)) (Mons.s (u_loads ti26 (et d9) (hS.blk d2).cells rfl) Mons.z))), ?_⟩
          replace h := bI h; obtain ⟨l67, g68, h⟩ := h
          obtain ⟨cs69, m70, m71⟩ := Sl.cells (m26.up (le37.t le43))
          have m66 := Rw.app m59 m70 g68
          refine sf1 rfl rfl rfl rfl (wanted_t rfl rfl (k50 d5)) (s_appS Tryd.underlying24 ti43 rfl (et (k60 d2)) (et (k60 d4)) hS d0 (fun e => (m71 e)) m70 g68 (by decide) ?_); clear hS; intro v65 w21 rs_ hp_ hS; cases (show _ = rs_ from hp_)
          replace hS := Sep.reput hS p0; refine pu (dt (q60 p5)) ?_
          refine ⟨(Mons.s (u_load ti23 (et (k50 d7)) ((hS.blk d3).cell d0)) (Mons.s (u_loads ti26 (et d9) (hS.blk d2).cells rfl) Mons.z)), ?_⟩
          refine sf_puY (i := 14) [14, 15, 16, 17] (blind_of fun _ _ _ h => h.2) rfl rfl rfl rfl (k50 d5) (u_build ti26 pl26 (Fl.o rfl (et (k50 d8)) rfl rfl p0 (Fl.o rfl (et (k60 d5)) (hS.get d0).cellV rfl p1 Fl.z))) (q60 p6) ?_
          obtain ⟨μ6, a72, c73, e76, le75, m74, hq_⟩ := Sep.frzRow hS m66 rfl; clear hS; have hS := hq_; clear hq_
          subst e76
          replace h := bI h; obtain ⟨r77, g78, h⟩ := h
          refine sf1 rfl rfl rfl rfl (wanted_t rfl rfl (k50 d5)) (s_callv isfn8 ef (e1 (et (k50 d6)) (e1 (et (k60 d6)) e0)) (r6_same_w (p_2 := (TModule.mk r5.1.Boxes l67)) (hg.t (le3.t (le7.t (le20.t (le37.t (le43.t le75)))))) (m46.up le75) (m49.up le75) (m10.up (le20.t (le37.t (le43.t le75)))) m74 g78 hS) ?_)
          rintro _ w22 ⟨μ7, rfl, le79, hS⟩
          refine pu (dt (q60 p7)) ?_
          refine ⟨Mons.z, ?_⟩
          refine sf_pu (i := 16) [16, 17] (blind_of fun _ _ _ h => h.2) rfl rfl rfl (u_pickt (et (k50 d5)) (et (k60 d7))) (q60 p8) ?_
          refine sf_pu (i := 17) [17] (blind_of fun _ _ _ h => h.2) rfl rfl rfl (u_assign (et (k60 d8))) p4 ?_
          refine sf_nil ?_
          refine xn ?_
          refine cret ?_
          obtain rfl := Option.some.inj h
          refine ret1 rfl d4 ?_
          replace hS := hS.drop Rm.z
          replace hS := hS.drop Rm.z
          replace hS := hS.drop Rm.z
          replace hS := hS.drop Rm.z
          exact ⟨_, rfl, (le3.t (le7.t (le20.t (le37.t (le43.t (le75.t le79)))))), hS⟩
        · replace h := iF h54 h
          refine sf_puN (i := 4) [4, 15, 16, 17] (blind_of fun _ _ _ h => h.2) rfl rfl rfl rfl (k50 d5) rfl (q50 p6) ?_
          refine sf_puN (i := 5) [5, 6, 14, 15, 16, 17] (blind_of fun _ _ _ h => h.2) rfl rfl rfl rfl (k50 d5) rfl (q50 p7) ?_
          refine sf_puN (i := 6) [6, 14, 15, 16, 17] (blind_of fun _ _ _ h => h.2) rfl rfl rfl rfl (k50 d5) rfl (q50 p8) ?_
          refine sf_puN (i := 7) [7, 10, 13, 14, 15, 16, 17] (blind_of fun _ _ _ h => h.2) rfl rfl rfl rfl (k50 d5) rfl (q50 p9) ?_
          refine sf_puN (i := 8) [8, 9, 10, 13, 14, 15, 16, 17] (blind_of fun _ _ _ h => h.2) rfl rfl rfl rfl (k50 d5) rfl (q60 p0) ?_
          refine sf_puN (i := 9) [9, 10, 13, 14, 15, 16, 17] (blind_of fun _ _ _ h => h.2) rfl rfl rfl rfl (k50 d5) rfl (q60 p1) ?_
          refine sf_puN (i := 10) [10, 13, 14, 15, 16, 17] (blind_of fun _ _ _ h => h.2) rfl rfl rfl rfl (k50 d5) rfl (q60 p2) ?_
          refine sf_puN (i := 11) [11, 12, 13, 14, 15, 16, 17] (blind_of fun _ _ _ h => h.2) rfl rfl rfl rfl (k50 d5) rfl (q60 p3) ?_
          refine sf_puN (i := 12) [12, 13, 14, 15, 16, 17] (blind_of fun _ _ _ h => h.2) rfl rfl rfl rfl (k50 d5) rfl (q60 p4) ?_
          refine sf_puN (i := 13) [13, 14, 15, 16, 17] (blind_of fun _ _ _ h => h.2) rfl rfl rfl rfl (k50 d5) rfl (q60 p5) ?_
          refine sf_puN (i := 14) [14, 15, 16, 17] (blind_of fun _ _ _ h => h.2) rfl rfl rfl rfl (k50 d5) rfl (q60 p6) ?_
          refine sf_puN (i := 15) [15, 16, 17] (blind_of fun _ _ _ h => h.2) rfl rfl rfl rfl (k50 d5) rfl (q60 p7) ?_
          refine sf_pu (i := 16) [16, 17] (blind_of fun _ _ _ h => h.2) rfl rfl rfl (u_pickf (et (k50 d5)) ec) (q60 p8) ?_
          refine sf_pu (i := 17) [17] (blind_of fun _ _ _ h => h.2) rfl rfl rfl (u_assign (et (k60 d8))) p4 ?_
          refine sf_nil ?_
          refine xn ?_
          refine cret ?_
          obtain rfl := Option.some.inj h
          refine ret1 rfl d4 ?_
          replace hS := hS.drop Rm.z
          replace hS := hS.drop Rm.z
          replace hS := hS.drop Rm.z
          replace hS := hS.drop Rm.z
          exact ⟨_, rfl, (le3.t (le7.t (le20.t (le37.t le43)))), hS⟩

end Go.Proofs.YtjmhclgjipapbaaDoor
