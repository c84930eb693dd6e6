/- Texts of AsmRight Wl. -/
import Derived.Test.YtppgfpelddpnbaaGreatDoorCMd
import Derived.Test.YtppgfpelddpnbaaGreatDoorCWd
import Derived.Test.YtppgfpelddpnbaaGreatDoorCWb
set_option linter.unusedSimpArgs false
set_option linter.unusedVariables false
set_option linter.unusedSectionVars false
set_option maxRecDepth 100000
set_option maxHeartbeats 20000000
namespace Go.Proofs.YtppgfpelddpnbaaGreatDoor
open Go.Wk Go.Xt Go.Y
theorem asm_alive_w {fu:Nat} {μ0:M} {w0 w:World} {rsF:List Res} (hg:Le Gm μ0)  {r:Bool}  (h:asm_alive fu =some r) (hS:Sq μ0 w0 w (rsF)):CallsV Tryz.prog 4 [] w (fun v w'=>∃ (μ':M) ,v=.bool r∧Le μ0 μ'∧Sq μ' w0 w' (rsF)):=by
  unfold asm_alive at h
  refine enter Tryz.func4 rfl (frm:=[_,_,_,_,_,_,_,_,_,_,_,_,_,_,_,_,_,_,_,_,_,_,_,_,_,_,_,_,_,_,_,_,_,_,_,_,_,_,_,_,_,_]) rfl ?_
  refine cseq ?_
  refine creg ?_
  refine wl (s_assign ec (dt p0) ?_)
  refine wnil ?_
  refine xn ?_
  refine cseq ?_
  refine creg ?_
  replace h:=bI h; obtain ⟨r1,g2,h⟩:=h
  refine wl (s_callv isfn6 ef (e1 ec e0) (asm_read_w hg g2 hS) ?_)
  rintro _ w1 ⟨μ1,a4,c5,a7,c8,rfl,le3,hS,m6,m9⟩
  refine pu (dt p4) ?_
  refine wl (s_move (et d4) (dt p3) ?_)
  refine wl (s_extr (et d3) d0 (dt p5) ?_)
  refine wl (s_extr (et d3) d1 (dt p6) ?_)
  refine wl (s_alloc ti25 hS ?_); clear hS; intro b10 w2 hb11 hS; refine pu (dt p1) ?_
  refine wl (s_alloc ti33 hS ?_); clear hS; intro b12 w3 hb13 hS; refine pu (dt p2) ?_
  refine wl (s_storeA ti25 (et d1) (et d5) rfl rfl hS d1 rfl p1 dn ?_)
  clear hS; intro w4 hS
  refine wl (s_storeA ti33 (et d2) (et d6) rfl rfl hS d0 rfl p0 dn ?_)
  clear hS; intro w5 hS
  refine wnil ?_
  refine xn ?_
  refine cseq ?_
  refine creg ?_
  refine wl (s_fa fa33_0 (et d2) rfl (dt p7) ?_)
  refine wl (s_load ti27 (et d7) ((hS.blk d0).cell d0) (dt p8) ?_)
  refine wl (s_eqi (et d8) ec (dt p9) ?_)
  refine wl (s_move (et d9) (dt (q10 p0)) ?_)
  refine wspd (k10 d0) (q10 p0) (q10 p0) (fun h14=>?_) (fun h14=>?_)
  · replace h:=iT h14 h
    refine wy rfl (k10 d0) (s_fa fa25_0 (et d1) rfl (dt (q10 p1)) ?_)
    refine wy rfl (k10 d0) (s_load ti22 (et (k10 d1)) ((hS.blk d1).cell d0) (dt (q10 p2)) ?_)
    refine wy rfl (k10 d0) (s_lensl Tryz.underlying22 (et (k10 d2)) (dt (q10 p3)) ?_)
    refine wy rfl (k10 d0) (s_eqi (et (k10 d3)) ec (dt (q10 p4)) ?_)
    refine wl (s_pickt (et (k10 d0)) (et (k10 d4)) (dt (q10 p5)) ?_)
    refine wl (s_move (et (k10 d5)) (dt (q10 p6)) ?_)
    refine wspd (k10 d6) (q10 p6) (q10 p6) (fun h15=>?_) (fun h15=>?_)
    · replace h:=iT h15 h
      refine wy rfl (k10 d6) (s_fa fa25_1 (et d1) rfl (dt (q10 p7)) ?_)
      refine wy rfl (k10 d6) (s_load ti23 (et (k10 d7)) ((hS.blk d1).cell d1) (dt (q10 p8)) ?_)
      refine wy rfl (k10 d6) (s_lensl Tryz.underlying23 (et (k10 d8)) (dt (q10 p9)) ?_)
      refine wy rfl (k10 d6) (s_eqi (et (k10 d9)) ec (dt (q20 p0)) ?_)
      refine wl (s_pickt (et (k10 d6)) (et (k20 d0)) (dt (q20 p1)) ?_)
      refine wl (s_move (et (k20 d1)) (dt (q20 p2)) ?_)
      refine wspd (k20 d2) (q20 p2) (q20 p2) (fun h16=>?_) (fun h16=>?_)
      · replace h:=iT h16 h
        refine wy rfl (k20 d2) (s_fa fa25_1 (et d1) rfl (dt (q20 p3)) ?_)
        refine wy rfl (k20 d2) (s_load ti23 (et (k20 d3)) ((hS.blk d1).cell d1) (dt (q20 p4)) ?_)
        replace h:=bI h; obtain ⟨x17,g18,h⟩:=h
        obtain ⟨b19,o20,cs21,e22,f23,m24⟩:=SlR.elem m9 g18
        obtain ⟨a25,c26,a28,c29,rfl,m27,m30⟩:=m24
        refine wy rfl (k20 d2) (s_iax Tryz.underlying23 ti41 (et (k20 d4)) ec e22 (dt (q20 p5)) ?_)
        refine wy rfl (k20 d2) (s_fa fa41_5 (et (k20 d5)) rfl (dt (q20 p6)) ?_)
        refine wy rfl (k20 d2) (s_load ti39 (et (k20 d6)) ((f23 _ hS.a).one d5) (dt (q20 p7)) ?_)
        refine wy rfl (k20 d2) (s_lensl Tryz.underlying39 (et (k20 d7)) (dt (q20 p8)) ?_)
        refine wy rfl (k20 d2) (s_eqi (et (k20 d8)) ec (dt (q20 p9)) ?_)
        refine wl (s_pickt (et (k20 d2)) (et (k20 d9)) (dt (q30 p0)) ?_)
        refine wl (s_move (et (k30 d0)) (dt (q30 p1)) ?_)
        refine wspd (k30 d1) (q30 p1) (q30 p1) (fun h31=>?_) (fun h31=>?_)
        · replace h:=iT h31 h
          refine wy rfl (k30 d1) (s_fa fa25_1 (et d1) rfl (dt (q30 p2)) ?_)
          refine wy rfl (k30 d1) (s_load ti23 (et (k30 d2)) ((hS.blk d1).cell d1) (dt (q30 p3)) ?_)
          replace h:=bI h; obtain ⟨x32,g33,h⟩:=h
          obtain ⟨b34,o35,cs36,e37,f38,m39⟩:=SlR.elem m9 g33
          obtain ⟨a40,c41,a43,c44,rfl,m42,m45⟩:=m39
          refine wy rfl (k30 d1) (s_iax Tryz.underlying23 ti41 (et (k30 d3)) ec e37 (dt (q30 p4)) ?_)
          refine wy rfl (k30 d1) (s_fa fa41_5 (et (k30 d4)) rfl (dt (q30 p5)) ?_)
          refine wy rfl (k30 d1) (s_load ti39 (et (k30 d5)) ((f38 _ hS.a).one d5) (dt (q30 p6)) ?_)
          replace h:=bI h; obtain ⟨x46,g47,h⟩:=h
          obtain ⟨b48,o49,cs50,e51,f52,m53⟩:=SlR.elem m45 g47
          obtain rfl:=m53
          refine wy rfl (k30 d1) (s_iax Tryz.underlying39 ti43 (et (k30 d6)) ec e51 (dt (q30 p7)) ?_)
          refine wy rfl (k30 d1) (s_fa fa43_2 (et (k30 d7)) rfl (dt (q30 p8)) ?_)
          refine wy rfl (k30 d1) (s_load ti2 (et (k30 d8)) ((f52 _ hS.a).one d2) (dt (q30 p9)) ?_)
          refine wy rfl (k30 d1) (s_eqi (et (k30 d9)) ec (dt (q40 p0)) ?_)
          refine wl (s_pickt (et (k30 d1)) (et (k40 d0)) (dt (q40 p1)) ?_)
          refine wl (s_assign (et (k40 d1)) (dt p0) ?_)
          refine wnil ?_
          refine xn ?_
          refine cret ?_
          obtain rfl:=oI h
          refine ret1 rfl d0 ?_
          replace hS:=hS.drop Rm.z
          replace hS:=hS.drop Rm.z
          exact ⟨_,rfl,le3,hS⟩
        · replace h:=iF h31 h
          refine wn rfl (k30 d1) rfl (dt (q30 p2)) ?_
          refine wn rfl (k30 d1) rfl (dt (q30 p3)) ?_
          refine wn rfl (k30 d1) rfl (dt (q30 p4)) ?_
          refine wn rfl (k30 d1) rfl (dt (q30 p5)) ?_
          refine wn rfl (k30 d1) rfl (dt (q30 p6)) ?_
          refine wn rfl (k30 d1) rfl (dt (q30 p7)) ?_
          refine wn rfl (k30 d1) rfl (dt (q30 p8)) ?_
          refine wn rfl (k30 d1) rfl (dt (q30 p9)) ?_
          refine wn rfl (k30 d1) rfl (dt (q40 p0)) ?_
          refine wl (s_pickf (et (k30 d1)) ec (dt (q40 p1)) ?_)
          refine wl (s_assign (et (k40 d1)) (dt p0) ?_)
          refine wnil ?_
          refine xn ?_
          refine cret ?_
          obtain rfl:=oI h
          refine ret1 rfl d0 ?_
          replace hS:=hS.drop Rm.z
          replace hS:=hS.drop Rm.z
          exact ⟨_,rfl,le3,hS⟩
      · replace h:=iF h16 h
        refine wn rfl (k20 d2) rfl (dt (q20 p3)) ?_
        refine wn rfl (k20 d2) rfl (dt (q20 p4)) ?_
        refine wn rfl (k20 d2) rfl (dt (q20 p5)) ?_
        refine wn rfl (k20 d2) rfl (dt (q20 p6)) ?_
        refine wn rfl (k20 d2) rfl (dt (q20 p7)) ?_
        refine wn rfl (k20 d2) rfl (dt (q20 p8)) ?_
        refine wn rfl (k20 d2) rfl (dt (q20 p9)) ?_
        refine wl (s_pickf (et (k20 d2)) ec (dt (q30 p0)) ?_)
        refine wl (s_move (et (k30 d0)) (dt (q30 p1)) ?_)
        refine wn rfl (k30 d1) rfl (dt (q30 p2)) ?_
        refine wn rfl (k30 d1) rfl (dt (q30 p3)) ?_
        refine wn rfl (k30 d1) rfl (dt (q30 p4)) ?_
        refine wn rfl (k30 d1) rfl (dt (q30 p5)) ?_
        refine wn rfl (k30 d1) rfl (dt (q30 p6)) ?_
        refine wn rfl (k30 d1) rfl (dt (q30 p7)) ?_
        refine wn rfl (k30 d1) rfl (dt (q30 p8)) ?_
        refine wn rfl (k30 d1) rfl (dt (q30 p9)) ?_
        refine wn rfl (k30 d1) rfl (dt (q40 p0)) ?_
        refine wl (s_pickf (et (k30 d1)) ec (dt (q40 p1)) ?_)
        refine wl (s_assign (et (k40 d1)) (dt p0) ?_)
        refine wnil ?_
        refine xn ?_
        refine cret ?_
        obtain rfl:=oI h
        refine ret1 rfl d0 ?_
        replace hS:=hS.drop Rm.z
        replace hS:=hS.drop Rm.z
        exact ⟨_,rfl,le3,hS⟩
    · replace h:=iF h15 h
      refine wn rfl (k10 d6) rfl (dt (q10 p7)) ?_
      refine wn rfl (k10 d6) rfl (dt (q10 p8)) ?_
      refine wn rfl (k10 d6) rfl (dt (q10 p9)) ?_
      refine wn rfl (k10 d6) rfl (dt (q20 p0)) ?_
      refine wl (s_pickf (et (k10 d6)) ec (dt (q20 p1)) ?_)
      refine wl (s_move (et (k20 d1)) (dt (q20 p2)) ?_)
      refine wn rfl (k20 d2) rfl (dt (q20 p3)) ?_
      refine wn rfl (k20 d2) rfl (dt (q20 p4)) ?_
      refine wn rfl (k20 d2) rfl (dt (q20 p5)) ?_
      refine wn rfl (k20 d2) rfl (dt (q20 p6)) ?_
      refine wn rfl (k20 d2) rfl (dt (q20 p7)) ?_
      refine wn rfl (k20 d2) rfl (dt (q20 p8)) ?_
      refine wn rfl (k20 d2) rfl (dt (q20 p9)) ?_
      refine wl (s_pickf (et (k20 d2)) ec (dt (q30 p0)) ?_)
      refine wl (s_move (et (k30 d0)) (dt (q30 p1)) ?_)
      refine wn rfl (k30 d1) rfl (dt (q30 p2)) ?_
      refine wn rfl (k30 d1) rfl (dt (q30 p3)) ?_
      refine wn rfl (k30 d1) rfl (dt (q30 p4)) ?_
      refine wn rfl (k30 d1) rfl (dt (q30 p5)) ?_
      refine wn rfl (k30 d1) rfl (dt (q30 p6)) ?_
      refine wn rfl (k30 d1) rfl (dt (q30 p7)) ?_
      refine wn rfl (k30 d1) rfl (dt (q30 p8)) ?_
      refine wn rfl (k30 d1) rfl (dt (q30 p9)) ?_
      refine wn rfl (k30 d1) rfl (dt (q40 p0)) ?_
      refine wl (s_pickf (et (k30 d1)) ec (dt (q40 p1)) ?_)
      refine wl (s_assign (et (k40 d1)) (dt p0) ?_)
      refine wnil ?_
      refine xn ?_
      refine cret ?_
      obtain rfl:=oI h
      refine ret1 rfl d0 ?_
      replace hS:=hS.drop Rm.z
      replace hS:=hS.drop Rm.z
      exact ⟨_,rfl,le3,hS⟩
  · replace h:=iF h14 h
    refine wn rfl (k10 d0) rfl (dt (q10 p1)) ?_
    refine wn rfl (k10 d0) rfl (dt (q10 p2)) ?_
    refine wn rfl (k10 d0) rfl (dt (q10 p3)) ?_
    refine wn rfl (k10 d0) rfl (dt (q10 p4)) ?_
    refine wl (s_pickf (et (k10 d0)) ec (dt (q10 p5)) ?_)
    refine wl (s_move (et (k10 d5)) (dt (q10 p6)) ?_)
    refine wn rfl (k10 d6) rfl (dt (q10 p7)) ?_
    refine wn rfl (k10 d6) rfl (dt (q10 p8)) ?_
    refine wn rfl (k10 d6) rfl (dt (q10 p9)) ?_
    refine wn rfl (k10 d6) rfl (dt (q20 p0)) ?_
    refine wl (s_pickf (et (k10 d6)) ec (dt (q20 p1)) ?_)
    refine wl (s_move (et (k20 d1)) (dt (q20 p2)) ?_)
    refine wn rfl (k20 d2) rfl (dt (q20 p3)) ?_
    refine wn rfl (k20 d2) rfl (dt (q20 p4)) ?_
    refine wn rfl (k20 d2) rfl (dt (q20 p5)) ?_
    refine wn rfl (k20 d2) rfl (dt (q20 p6)) ?_
    refine wn rfl (k20 d2) rfl (dt (q20 p7)) ?_
    refine wn rfl (k20 d2) rfl (dt (q20 p8)) ?_
    refine wn rfl (k20 d2) rfl (dt (q20 p9)) ?_
    refine wl (s_pickf (et (k20 d2)) ec (dt (q30 p0)) ?_)
    refine wl (s_move (et (k30 d0)) (dt (q30 p1)) ?_)
    refine wn rfl (k30 d1) rfl (dt (q30 p2)) ?_
    refine wn rfl (k30 d1) rfl (dt (q30 p3)) ?_
    refine wn rfl (k30 d1) rfl (dt (q30 p4)) ?_
    refine wn rfl (k30 d1) rfl (dt (q30 p5)) ?_
    refine wn rfl (k30 d1) rfl (dt (q30 p6)) ?_
    refine wn rfl (k30 d1) rfl (dt (q30 p7)) ?_
    refine wn rfl (k30 d1) rfl (dt (q30 p8)) ?_
    refine wn rfl (k30 d1) rfl (dt (q30 p9)) ?_
    refine wn rfl (k30 d1) rfl (dt (q40 p0)) ?_
    refine wl (s_pickf (et (k30 d1)) ec (dt (q40 p1)) ?_)
    refine wl (s_assign (et (k40 d1)) (dt p0) ?_)
    refine wnil ?_
    refine xn ?_
    refine cret ?_
    obtain rfl:=oI h
    refine ret1 rfl d0 ?_
    replace hS:=hS.drop Rm.z
    replace hS:=hS.drop Rm.z
    exact ⟨_,rfl,le3,hS⟩
theorem law_asmr_w {fu:Nat} {μ0:M} {w0 w:World} {rsF:List Res} (hg:Le Gm μ0) {p_1:TModule} {a1:Option Addr} {c2:Nat} {a4:Option Addr} {c5:Nat} {r:Bool} (m3:Sl μ0 a1 c2 p_1.Boxes) (m6:Sl μ0 a4 c5 p_1.Units) (h:law_asmr fu p_1=some r) (hS:Sq μ0 w0 w (rsF)):CallsV Tryz.prog 3 [.agg ⟨[.slice a1 p_1.Boxes.length c2,.slice a4 p_1.Units.length c5]⟩] w (fun v w'=>∃ (μ':M) ,v=.bool r∧Le μ0 μ'∧Sq μ' w0 w' (rsF)):=by
  unfold law_asmr at h
  refine enter Tryz.func3 rfl (frm:=[_,_,_,_,_,_,_,_,_,_,_,_,_,_,_,_,_,_,_,_,_,_,_,_,_,_,_,_,_,_,_,_]) rfl ?_
  refine cseq ?_
  refine creg ?_
  refine wl (s_box (et d0) rfl hS ?_); clear hS; intro b7 w1 hb8 hS; refine pu (dt p1) ?_
  refine wl (s_assign ec (dt p2) ?_)
  refine wnil ?_
  refine xn ?_
  refine cseq ?_
  refine cseq ?_
  refine creg ?_
  replace h:=bI h; obtain ⟨r9,g10,h⟩:=h
  refine wl (s_callv isfn4 ef e0 (asm_alive_w hg g10 hS) ?_)
  rintro _ w2 ⟨μ1,rfl,le11,hS⟩
  refine pu (dt p7) ?_
  refine wl (s_not (et d7) (dt p8) ?_)
  refine wnil ?_
  refine xn ?_
  refine cifnb (et d8) (fun h12=>?_) (fun h12=>?_)
  · replace h:=iF h12 h
    refine cseq ?_
    refine creg ?_
    refine wl (s_assign ec (dt p2) ?_)
    refine wnil ?_
    refine xn ?_
    refine cret ?_
    refine xr ?_
    obtain rfl:=oI h
    refine ret1 rfl d2 ?_
    replace hS:=hS.drop Rm.z
    exact ⟨_,rfl,le11,hS⟩
  · replace h:=iT h12 h
    refine cskip ?_
    refine xn ?_
    refine cseq ?_
    refine creg ?_
    refine wl (s_loads ti25 (et d1) (hS.blk d0).cells rfl (dt (q10 p0)) ?_)
    replace h:=bI h; obtain ⟨r13,g14,h⟩:=h
    refine wl (s_callv isfn5 ef (e1 (et (k10 d0)) e0) (asm_print_w (hg.t le11) (m3.up le11) (m6.up le11) g14 hS) ?_)
    rintro _ w3 ⟨μ2,rfl,le15,hS⟩
    refine pu (dt (q10 p1)) ?_
    refine wl (s_move (et (k10 d1)) (dt p9) ?_)
    refine wl (s_extr (et d9) d0 (dt (q10 p2)) ?_)
    refine wl (s_extr (et d9) d1 (dt (q10 p3)) ?_)
    refine wl (s_alloc ti29 hS ?_); clear hS; intro b16 w4 hb17 hS; refine pu (dt p4) ?_
    refine wl (s_assign (et (k10 d2)) (dt p3) ?_)
    refine wl (s_storeA ti29 (et d4) (et (k10 d3)) rfl rfl hS d0 rfl p0 dn ?_)
    clear hS; intro w5 hS
    refine wnil ?_
    refine xn ?_
    refine cseq ?_
    refine cseq ?_
    refine creg ?_
    refine wl (s_fa fa29_0 (et d4) rfl (dt (q10 p4)) ?_)
    refine wl (s_load ti27 (et (k10 d4)) ((hS.blk d0).cell d0) (dt (q10 p5)) ?_)
    refine wl (s_nei (et (k10 d5)) ec (dt (q10 p6)) ?_)
    refine wnil ?_
    refine xn ?_
    refine cifd (et (k10 d6)) (fun h18=>?_) (fun h18=>?_)
    · replace h:=iT h18 h
      refine cseq ?_
      refine creg ?_
      refine wl (s_assign ec (dt p2) ?_)
      refine wnil ?_
      refine xn ?_
      refine cret ?_
      refine xr ?_
      obtain rfl:=oI h
      refine ret1 rfl d2 ?_
      replace hS:=hS.drop Rm.z
      replace hS:=hS.drop Rm.z
      exact ⟨_,rfl,(le11.t le15),hS⟩
    · replace h:=iF h18 h
      refine cskip ?_
      refine xn ?_
      refine cseq ?_
      refine creg ?_
      refine wl (s_move (et d3) (dt (q10 p8)) ?_)
      replace h:=bI h; obtain ⟨r19,g20,h⟩:=h
      refine wl (s_callv isfn6 ef (e1 (et (k10 d8)) e0) (asm_read_w (hg.t (le11.t le15)) g20 hS) ?_)
      rintro _ w6 ⟨μ3,a22,c23,a25,c26,rfl,le21,hS,m24,m27⟩
      refine pu (dt (q10 p9)) ?_
      refine wl (s_move (et (k10 d9)) (dt (q10 p7)) ?_)
      refine wl (s_extr (et (k10 d7)) d0 (dt (q20 p0)) ?_)
      refine wl (s_extr (et (k10 d7)) d1 (dt (q20 p1)) ?_)
      refine wl (s_alloc ti25 hS ?_); clear hS; intro b28 w7 hb29 hS; refine pu (dt p5) ?_
      refine wl (s_alloc ti33 hS ?_); clear hS; intro b30 w8 hb31 hS; refine pu (dt p6) ?_
      refine wl (s_storeA ti25 (et d5) (et (k20 d0)) rfl rfl hS d1 rfl p1 dn ?_)
      clear hS; intro w9 hS
      refine wl (s_storeA ti33 (et d6) (et (k20 d1)) rfl rfl hS d0 rfl p0 dn ?_)
      clear hS; intro w10 hS
      refine wnil ?_
      refine xn ?_
      refine cseq ?_
      refine cdraw (by kernel_rfl) rfl fun w11 hh_ ho_ ht_ hu_=>?_
      replace hS:=hS.drew hh_ ho_ ht_ hu_
      refine sf_start ?_
      refine sf_pu (i:=0) [0,1,2,3,4,5,6,7,8,9,10] (blind_of fun _ _ _ h=>h.2) rfl rfl rfl (u_fa fa33_0 (et d6) rfl) (q20 p2) ?_
      refine sf_rd (i:=1) [1,2,3,4,5,6,7,8,9,10] (blind_of fun _ _ _ h=>h.2) rfl rfl rfl (u_load ti27 (et (k20 d2)) ((hS.blk d0).cell d0)) (q20 p3) ?_
      refine sf_pu (i:=2) [2,3,4,5,6,7,8,9,10] (blind_of fun _ _ _ h=>h.2) rfl rfl rfl (u_eqi (et (k20 d3)) ec) (q20 p4) ?_
      refine sf_pu (i:=3) [3,4,5,6,7,8,9,10] (blind_of fun _ _ _ h=>h.2) rfl rfl rfl (u_move (et (k20 d4))) (q20 p5) ?_
      refine sfsd (k20 d5) (q20 p5) (q20 p5) (fun h32=>?_) (fun h32=>?_)
      · replace h:=iT h32 h
        refine sf_rdY (i:=4) [4,5,7,8,9,10] (blind_of fun _ _ _ h=>h.2) rfl rfl rfl rfl (k20 d5) (u_loads ti25 (et d5) (hS.blk d1).cells rfl) (q20 p6) ?_
        refine sf_rdY (i:=6) [6,7,8,9,10] (blind_of fun _ _ _ h=>h.2) rfl rfl rfl rfl (k20 d5) (u_loads ti25 (et d1) (hS.blk d3).cells rfl) (q20 p8) ?_
        replace h:=bI h; obtain ⟨r33,g34,h⟩:=h
        refine sf1 rfl rfl rfl rfl (wanted_t rfl rfl (k20 d5)) (s_callv isfn7 ef (e1 (et (k20 d6)) e0) (vf_verify_w (hg.t (le11.t (le15.t le21))) m24 m27 g34 hS) ?_)
        rintro _ w12 ⟨μ4,rfl,le35,hS⟩
        refine pu (dt (q20 p7)) ?_
        refine ⟨(Mons.s (u_loads ti25 (et d1) (hS.blk d3).cells rfl) Mons.z),?_⟩
        replace h:=bI h; obtain ⟨r36,g37,h⟩:=h
        refine sf1 rfl rfl rfl rfl (wanted_t rfl rfl (k20 d5)) (s_callv isfn7 ef (e1 (et (k20 d8)) e0) (vf_verify_w (hg.t (le11.t (le15.t (le21.t le35)))) (m3.up (le11.t (le15.t (le21.t le35)))) (m6.up (le11.t (le15.t (le21.t le35)))) g37 hS) ?_)
        rintro _ w13 ⟨μ5,rfl,le38,hS⟩
        refine pu (dt (q20 p9)) ?_
        refine ⟨Mons.z,?_⟩
        refine sf_puY (i:=8) [8,9,10] (blind_of fun _ _ _ h=>h.2) rfl rfl rfl rfl (k20 d5) (u_eqa (ES.mk Tryz.underlying29 eh29 eg29) (et (k20 d7)) (et (k20 d9)) (EqFs.o rfl rfl rfl ti27 d0 d0 (eq_int Tryz.underlying27) (EqFs.o rfl rfl rfl ti3 d1 d1 (eq_int Tryz.underlying3) (EqFs.o rfl rfl rfl ti3 d2 d2 (eq_int Tryz.underlying3) EqFs.z))) rfl) (q30 p0) ?_
        refine sf_pu (i:=9) [9,10] (blind_of fun _ _ _ h=>h.2) rfl rfl rfl (u_pickt (et (k20 d5)) (et (k30 d0))) (q30 p1) ?_
        refine sf_pu (i:=10) [10] (blind_of fun _ _ _ h=>h.2) rfl rfl rfl (u_assign (et (k30 d1))) p2 ?_
        refine sf_nil ?_
        refine xn ?_
        refine cret ?_
        obtain rfl:=oI h
        refine ret1 rfl d2 ?_
        replace hS:=hS.drop Rm.z
        replace hS:=hS.drop Rm.z
        replace hS:=hS.drop Rm.z
        replace hS:=hS.drop Rm.z
        exact ⟨_,rfl,(le11.t (le15.t (le21.t (le35.t le38)))),hS⟩
      · replace h:=iF h32 h
        refine sf_puN (i:=4) [4,5,7,8,9,10] (blind_of fun _ _ _ h=>h.2) rfl rfl rfl rfl (k20 d5) rfl (q20 p6) ?_
        refine sf_puN (i:=5) [5,7,8,9,10] (blind_of fun _ _ _ h=>h.2) rfl rfl rfl rfl (k20 d5) rfl (q20 p7) ?_
        refine sf_puN (i:=6) [6,7,8,9,10] (blind_of fun _ _ _ h=>h.2) rfl rfl rfl rfl (k20 d5) rfl (q20 p8) ?_
        refine sf_puN (i:=7) [7,8,9,10] (blind_of fun _ _ _ h=>h.2) rfl rfl rfl rfl (k20 d5) rfl (q20 p9) ?_
        refine sf_puN (i:=8) [8,9,10] (blind_of fun _ _ _ h=>h.2) rfl rfl rfl rfl (k20 d5) rfl (q30 p0) ?_
        refine sf_pu (i:=9) [9,10] (blind_of fun _ _ _ h=>h.2) rfl rfl rfl (u_pickf (et (k20 d5)) ec) (q30 p1) ?_
        refine sf_pu (i:=10) [10] (blind_of fun _ _ _ h=>h.2) rfl rfl rfl (u_assign (et (k30 d1))) p2 ?_
        refine sf_nil ?_
        refine xn ?_
        refine cret ?_
        obtain rfl:=oI h
        refine ret1 rfl d2 ?_
        replace hS:=hS.drop Rm.z
        replace hS:=hS.drop Rm.z
        replace hS:=hS.drop Rm.z
        replace hS:=hS.drop Rm.z
        exact ⟨_,rfl,(le11.t (le15.t le21)),hS⟩
end Go.Proofs.YtppgfpelddpnbaaGreatDoor
