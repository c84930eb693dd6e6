/- Texts of Wd. -/
import Derived.Test.YtppgfpelddpnbaaGreatDoorCMd
import Derived.Test.YtppgfpelddpnbaaGreatDoorCWc
set_option linter.unusedSimpArgs false
set_option linter.unusedVariables false
set_option linter.unusedSectionVars false
set_option maxRecDepth 100000
set_option maxHeartbeats 20000000
namespace Go.Proofs.YtppgfpelddpnbaaGreatDoor
open Go.Wk Go.Xt Go.Y
theorem vf_copiedr_w {μ0:M} {w0 w:World} {rsF:List Res} (hg:Le Gm μ0) {p_1:TVs} {v1:Value} {cs2:List Value} {v4:Value} {cs5:List Value} {r:TVs} (m3:Rw μ0 cs2 p_1.stack) (m6:Rw μ0 cs5 p_1.has) (h:vf_copiedr p_1=some r) (hS:Sq μ0 w0 w (.row v1 3 1 p_1.stack.length cs2::.row v4 4 1 p_1.has.length cs5::rsF)):CallsV Tryz.prog 38 [.agg ⟨[v1,v4]⟩] w (fun v w'=>∃ (μ':M) (v7:Value) (cs8:List Value) (v10:Value) (cs11:List Value),v=.agg ⟨[v7,v10]⟩∧Le μ0 μ'∧Sq μ' w0 w' (.row v7 3 1 r.stack.length cs8::.row v10 4 1 r.has.length cs11::.row v1 3 1 p_1.stack.length cs2::.row v4 4 1 p_1.has.length cs5::rsF)∧Rw μ' cs8 r.stack∧Rw μ' cs11 r.has):=by
  unfold vf_copiedr at h
  refine enter Tryz.func38 rfl (frm:=[_,_,_,_,_,_,_,_,_,_]) rfl ?_
  refine cseq ?_
  refine creg ?_
  refine wl (s_box (et d0) rfl hS ?_); clear hS; intro b13 w1 hb14 hS; refine pu (dt p1) ?_
  refine wl (s_alloc ti92 hS ?_); clear hS; intro b15 w2 hb16 hS; refine pu (dt p2) ?_
  refine wnil ?_
  refine xn ?_
  refine cseq ?_
  refine ccutE (rg 3 7) (by decide) (fun m w=>∃ (μx:M) (l19:List Int) (v17:Value) (cs18:List Value) (l23:List Bool) (v21:Value) (cs22:List Value),m=(yK3 (yO7 3 []))∧vf_copiedr_j1 l19 l23=some r∧Le μ0 μx∧Sq μx w0 w (.row v1 3 1 p_1.stack.length cs2::.row v4 4 1 p_1.has.length cs5::.blk b15 92 [v17,v21]::.row v17 3 1 l19.length cs18::.row v21 4 1 l23.length cs22::rsF)∧Rw μx cs18 l19∧Rw μx cs22 l23) (by rintro _ _ ⟨_,_,_,_,_,_,_,rfl,_⟩; rfl) ?_ ?_
  · refine cdraw (by kernel_rfl) rfl fun w3 hh_ ho_ ht_ hu_=>?_
    replace hS:=hS.drew hh_ ho_ ht_ hu_
    refine sf_start ?_
    refine sf_pu (i:=0) [0,1,2,5,6,7] (blind_of fun _ _ _ h=>h.2) rfl rfl rfl (u_fa fa92_0 (et d1) rfl) p3 ?_
    refine sf_rd (i:=1) [1,2,5,6,7] (blind_of fun _ _ _ h=>h.2) rfl rfl rfl (u_load ti38 (et d3) ((hS.blk d1).cell d0)) p4 ?_
    refine sf_pu (i:=3) [3,4,5,6,7] (blind_of fun _ _ _ h=>h.2) rfl rfl rfl (u_fa fa92_1 (et d1) rfl) p6 ?_
    refine sf_rd (i:=4) [4,5,6,7] (blind_of fun _ _ _ h=>h.2) rfl rfl rfl (u_load ti90 (et d6) ((hS.blk d1).cell d1)) p7 ?_
    replace h:=bI h; obtain ⟨u25,g26,h⟩:=h
    refine sf1 rfl rfl rfl rfl (wn0 rfl) (s_callv isfn59 ef (e1 (et d4) e0) (clone_i_c (l:=p_1.stack) (small_eq g26) (cells_row int1 (hS.get d2) m3) hS) ?_); clear hS; intro v27 w4 hS; refine pu (dt p5) ?_
    have m28:Rw μ0 _ p_1.stack:=rw_of_map (fun _ _=>rfl) _
    refine ⟨(Mons.s (u_load ti90 (et d6) ((hS.blk d2).cell d1)) Mons.z),?_⟩
    replace h:=bI h; obtain ⟨u29,g30,h⟩:=h
    refine sf1 rfl rfl rfl rfl (wn0 rfl) (s_callv isfn60 ef (e1 (et d7) e0) (clone_b_c (l:=p_1.has) (small_eq g30) (cells_row bool1 (hS.get d4) m6) hS) ?_); clear hS; intro v31 w5 hS; refine pu (dt p8) ?_
    have m32:Rw μ0 _ p_1.has:=rw_of_map (fun _ _=>rfl) _
    refine ⟨Mons.z,?_⟩
    refine sf_pu (i:=6) [6,7] (blind_of fun _ _ _ h=>h.2) rfl rfl rfl (u_build ti92 pl92 (Fl.o rfl (et d5) (hS.get d1).cellV rfl p0 (Fl.o rfl (et d8) (hS.get d0).cellV rfl p1 Fl.z))) p9 ?_
    refine sf1 rfl rfl rfl rfl (wn0 rfl) (s_storeA ti92 (et d2) (et d9) rfl (cv_s ((hS.get d1).cellV) (cv_s ((hS.get d0).cellV) cv_z)) hS d2 rfl p2 dn ?_)
    clear hS; intro w6 hS
    refine ⟨Mons.z,?_⟩
    refine sf_nil ?_
    refine xl ?_
    replace hS:=hS.drop (Rm.s (Rm.s (Rm.s Rm.z)))
    replace hS:=hS.bg (Bg.s Bg.z)
    replace hS:=hS.bg (Bg.s (Bg.s Bg.z))
    replace hS:=hS.bg (Bg.s (Bg.s (Bg.s (Bg.s Bg.z))))
    replace hS:=hS.bg (Bg.s (Bg.s (Bg.s (Bg.s Bg.z))))
    exact ⟨_,_,rfl,(aK3 (aO7 aZ)),_,p_1.stack,v27,(p_1.stack.map (Value.int .i64)),p_1.has,v31,(p_1.has.map Value.bool),rfl,h,Le.r,hS,m28,m32⟩
  · rintro _ t w7 ⟨μ1,l19,v17,cs18,l23,v21,cs22,rfl,h,le33,hS,m34,m35⟩
    unfold vf_copiedr_j1 at h
    refine nrm (mK3 (mO7 mz)) ?_
    refine xn ?_
    refine cret ?_
    obtain rfl:=oI h
    refine retN rfl (RVs.s (.a d2 ti92 (hS.blk d2).cells rfl) RVs.z) ?_
    replace hS:=hS.drop (Rm.s (Rm.s Rm.z))
    replace hS:=hS.bg (Bg.s Bg.z)
    replace hS:=hS.bg (Bg.s Bg.z)
    replace hS:=hS.bg (Bg.s (Bg.s (Bg.s Bg.z)))
    replace hS:=hS.bg (Bg.s (Bg.s (Bg.s Bg.z)))
    exact ⟨_,v17,cs18,v21,cs22,rfl,le33,hS,m34,m35⟩
theorem vf_copied1_w {μ0:M} {w0 w:World} {rsF:List Res} (hg:Le Gm μ0) {p_1:TVs} {a1:Option Addr} {c2:Nat} {v4:Value} {cs5:List Value} {r:TVs} (m3:Sl μ0 a1 c2 p_1.stack) (m6:Rw μ0 cs5 p_1.has) (h:vf_copied1 p_1=some r) (hS:Sq μ0 w0 w (.row v4 4 1 p_1.has.length cs5::rsF)):CallsV Tryz.prog 38 [.agg ⟨[.slice a1 p_1.stack.length c2,v4]⟩] w (fun v w'=>∃ (μ':M) (v7:Value) (cs8:List Value) (v10:Value) (cs11:List Value),v=.agg ⟨[v7,v10]⟩∧Le μ0 μ'∧Sq μ' w0 w' (.row v7 3 1 r.stack.length cs8::.row v10 4 1 r.has.length cs11::.row v4 4 1 p_1.has.length cs5::rsF)∧Rw μ' cs8 r.stack∧Rw μ' cs11 r.has):=by
  unfold vf_copied1 at h
  refine enter Tryz.func38 rfl (frm:=[_,_,_,_,_,_,_,_,_,_]) rfl ?_
  refine cseq ?_
  refine creg ?_
  refine wl (s_box (et d0) rfl hS ?_); clear hS; intro b13 w1 hb14 hS; refine pu (dt p1) ?_
  refine wl (s_alloc ti92 hS ?_); clear hS; intro b15 w2 hb16 hS; refine pu (dt p2) ?_
  refine wnil ?_
  refine xn ?_
  refine cseq ?_
  refine ccutE (rg 3 7) (by decide) (fun m w=>∃ (μx:M) (l19:List Int) (v17:Value) (cs18:List Value) (l23:List Bool) (v21:Value) (cs22:List Value),m=(yK3 (yO7 3 []))∧vf_copied1_j1 l19 l23=some r∧Le μ0 μx∧Sq μx w0 w (.row v4 4 1 p_1.has.length cs5::.blk b15 92 [v17,v21]::.row v17 3 1 l19.length cs18::.row v21 4 1 l23.length cs22::rsF)∧Rw μx cs18 l19∧Rw μx cs22 l23) (by rintro _ _ ⟨_,_,_,_,_,_,_,rfl,_⟩; rfl) ?_ ?_
  · refine cdraw (by kernel_rfl) rfl fun w3 hh_ ho_ ht_ hu_=>?_
    replace hS:=hS.drew hh_ ho_ ht_ hu_
    refine sf_start ?_
    refine sf_pu (i:=0) [0,1,2,5,6,7] (blind_of fun _ _ _ h=>h.2) rfl rfl rfl (u_fa fa92_0 (et d1) rfl) p3 ?_
    refine sf_rd (i:=1) [1,2,5,6,7] (blind_of fun _ _ _ h=>h.2) rfl rfl rfl (u_load ti38 (et d3) ((hS.blk d1).cell d0)) p4 ?_
    refine sf_pu (i:=3) [3,4,5,6,7] (blind_of fun _ _ _ h=>h.2) rfl rfl rfl (u_fa fa92_1 (et d1) rfl) p6 ?_
    refine sf_rd (i:=4) [4,5,6,7] (blind_of fun _ _ _ h=>h.2) rfl rfl rfl (u_load ti90 (et d6) ((hS.blk d1).cell d1)) p7 ?_
    replace h:=bI h; obtain ⟨u25,g26,h⟩:=h
    refine sf1 rfl rfl rfl rfl (wn0 rfl) (s_callv isfn59 ef (e1 (et d4) e0) (clone_i_c (l:=p_1.stack) (small_eq g26) (cells_sl int1 rfl m3 hS.a) hS) ?_); clear hS; intro v27 w4 hS; refine pu (dt p5) ?_
    have m28:Rw μ0 _ p_1.stack:=rw_of_map (fun _ _=>rfl) _
    refine ⟨(Mons.s (u_load ti90 (et d6) ((hS.blk d2).cell d1)) Mons.z),?_⟩
    replace h:=bI h; obtain ⟨u29,g30,h⟩:=h
    refine sf1 rfl rfl rfl rfl (wn0 rfl) (s_callv isfn60 ef (e1 (et d7) e0) (clone_b_c (l:=p_1.has) (small_eq g30) (cells_row bool1 (hS.get d3) m6) hS) ?_); clear hS; intro v31 w5 hS; refine pu (dt p8) ?_
    have m32:Rw μ0 _ p_1.has:=rw_of_map (fun _ _=>rfl) _
    refine ⟨Mons.z,?_⟩
    refine sf_pu (i:=6) [6,7] (blind_of fun _ _ _ h=>h.2) rfl rfl rfl (u_build ti92 pl92 (Fl.o rfl (et d5) (hS.get d1).cellV rfl p0 (Fl.o rfl (et d8) (hS.get d0).cellV rfl p1 Fl.z))) p9 ?_
    refine sf1 rfl rfl rfl rfl (wn0 rfl) (s_storeA ti92 (et d2) (et d9) rfl (cv_s ((hS.get d1).cellV) (cv_s ((hS.get d0).cellV) cv_z)) hS d2 rfl p2 dn ?_)
    clear hS; intro w6 hS
    refine ⟨Mons.z,?_⟩
    refine sf_nil ?_
    refine xl ?_
    replace hS:=hS.drop (Rm.s (Rm.s (Rm.s Rm.z)))
    replace hS:=hS.bg (Bg.s Bg.z)
    replace hS:=hS.bg (Bg.s (Bg.s Bg.z))
    replace hS:=hS.bg (Bg.s (Bg.s (Bg.s Bg.z)))
    exact ⟨_,_,rfl,(aK3 (aO7 aZ)),_,p_1.stack,v27,(p_1.stack.map (Value.int .i64)),p_1.has,v31,(p_1.has.map Value.bool),rfl,h,Le.r,hS,m28,m32⟩
  · rintro _ t w7 ⟨μ1,l19,v17,cs18,l23,v21,cs22,rfl,h,le33,hS,m34,m35⟩
    unfold vf_copied1_j1 at h
    refine nrm (mK3 (mO7 mz)) ?_
    refine xn ?_
    refine cret ?_
    obtain rfl:=oI h
    refine retN rfl (RVs.s (.a d2 ti92 (hS.blk d1).cells rfl) RVs.z) ?_
    replace hS:=hS.drop (Rm.s Rm.z)
    replace hS:=hS.bg (Bg.s (Bg.s Bg.z))
    replace hS:=hS.bg (Bg.s (Bg.s Bg.z))
    exact ⟨_,v17,cs18,v21,cs22,rfl,le33,hS,m34,m35⟩
theorem sl_equal_w {μ0:M} {w0 w:World} {rsF:List Res} (hg:Le Gm μ0) {p_1:List Int} {a1:Option Addr} {c2:Nat} {p_2:List Int} {v4:Value} {cs5:List Value} {r:Bool} (m3:Sl μ0 a1 c2 p_1) (m6:Rw μ0 cs5 p_2) (h:sl_equal p_1 p_2=some r) (hS:Sq μ0 w0 w (.row v4 3 1 p_2.length cs5::rsF)):CallsV Tryz.prog 58 [.slice a1 p_1.length c2,v4] w (fun v w'=>∃ (μ':M) ,v=.bool r∧Le μ0 μ'∧Sq μ' w0 w' (.row v4 3 1 p_2.length cs5::rsF)):=by
  unfold sl_equal at h
  refine enter Tryz.func58 rfl (frm:=[_,_,_,_,_,_,_,_,_,_,_,_,_,_,_,_,_,_,_,_,_,_,_,_,_,_]) rfl ?_
  refine cseq ?_
  refine creg ?_
  refine wl (s_assign ec (dt p4) ?_)
  refine wnil ?_
  refine xn ?_
  refine cseq ?_
  refine cseq ?_
  refine creg ?_
  refine wl (s_move (et d0) (dt p6) ?_)
  refine wl (s_lensl Tryz.underlying38 (et d6) (dt p7) ?_)
  refine wl (s_move (et d1) (dt p8) ?_)
  refine wl (s_lenv Tryz.underlying38 (et d8) (hS.get d0).isSl (dt p9) ?_)
  refine wl (s_nei (et d7) (et d9) (dt (q10 p0)) ?_)
  refine wnil ?_
  refine xn ?_
  refine cifd (et (k10 d0)) (fun h7=>?_) (fun h7=>?_)
  · replace h:=iT h7 h
    refine cseq ?_
    refine creg ?_
    refine wl (s_assign ec (dt p4) ?_)
    refine wnil ?_
    refine xn ?_
    refine cret ?_
    refine xr ?_
    obtain rfl:=oI h
    refine ret1 rfl d4 ?_
    exact ⟨_,rfl,Le.r,hS⟩
  · replace h:=iF h7 h
    refine cskip ?_
    refine xn ?_
    refine cseq ?_
    refine cseq ?_
    refine creg ?_
    refine wl (s_move (et d0) (dt (q10 p1)) ?_)
    refine wl (s_lensl Tryz.underlying38 (et (k10 d1)) (dt (q10 p2)) ?_)
    refine wl (s_move ec (dt (q10 p3)) ?_)
    refine wnil ?_
    refine xn ?_
    refine cblock ?_
    refine cloopE (rg 4 2++rg 14 12) (by decide) (fun n m w=>∃ (μx:M) (i33:Int),m=(yK4 (yO2 4 (yK7 (.i (.int .i64 i33)::(yO10 14 (yO2 24 []))))))∧sl_equal_l1 p_1 p_2 n i33=some r∧Le μ0 μx∧Sq μx w0 w (.row v4 3 1 p_2.length cs5::rsF)) (by rintro _ _ _ ⟨_,_,rfl,_⟩; rfl) _ _ (aK4 (aO2 (aK7 (aI (aO10 (aO2 aZ)))))) ⟨_,0,rfl,h,Le.r,hS⟩ ?_
    rintro n_1 _ t w1 ⟨μ1,i33,rfl,h,le58,hS⟩
    cases n_1 with
    | zero=>cases h
    | succ n_1 =>
    unfold sl_equal_l1 at h
    refine cnrm (mK4 (mO2 (mK7 (mi (mO10 (mO2 mz)))))) ?_
    refine cseq ?_
    refine creg ?_
    refine wl (s_lss (et (k10 d3)) (et (k10 d2)) (dt (q10 p4)) ?_)
    refine wnil ?_
    refine xn ?_
    refine cseq ?_
    refine cifd (et (k10 d4)) (fun h59=>?_) (fun h59=>?_)
    · replace h:=iT h59 h
      refine cskip ?_
      refine xn ?_
      refine cseq ?_
      refine cblock ?_
      refine cseq ?_
      refine creg ?_
      refine wl (s_move (et (k10 d3)) (dt (q10 p5)) ?_)
      refine wl (s_assign (et (k10 d5)) (dt p5) ?_)
      refine wnil ?_
      refine xn ?_
      refine cseq ?_
      refine cdraw (by kernel_rfl) rfl fun w2 hh_ ho_ ht_ hu_=>?_
      replace hS:=hS.drew hh_ ho_ ht_ hu_
      refine sf_start ?_
      refine sf_pu (i:=0) [0,2,3,8] (blind_of fun _ _ _ h=>h.2) rfl rfl rfl (u_move (et d0)) (q10 p6) ?_
      refine sf_pu (i:=1) [1,2,3,8] (blind_of fun _ _ _ h=>h.2) rfl rfl rfl (u_move (et d5)) (q10 p7) ?_
      replace h:=bI h; obtain ⟨x60,g61,h⟩:=h
      obtain ⟨b62,o63,cs64,e65,f66,m67⟩:=SlR.elem (m3.up le58) g61
      obtain rfl:=m67
      refine sf_pu (i:=2) [2,3,8] (blind_of fun _ _ _ h=>h.2) rfl rfl rfl (u_iax Tryz.underlying38 ti3 (et (k10 d6)) (et (k10 d7)) e65) (q10 p8) ?_
      refine sf_rd (i:=3) [3,8] (blind_of fun _ _ _ h=>h.2) rfl rfl rfl (u_load ti3 (et (k10 d8)) ((f66 _ hS.a).one d0)) (q10 p9) ?_
      refine sf_pu (i:=4) [4,6,7,8] (blind_of fun _ _ _ h=>h.2) rfl rfl rfl (u_move (et d1)) (q20 p0) ?_
      refine sf_pu (i:=5) [5,6,7,8] (blind_of fun _ _ _ h=>h.2) rfl rfl rfl (u_move (et d5)) (q20 p1) ?_
      replace h:=bI h; obtain ⟨x68,g69,h⟩:=h
      obtain ⟨b70,o71,pc72,cs73,sc74,ec75,e76,f77,m78,pn79,st80,m81⟩:=Row.elemS (α:=Int) (hS.get d0) (m6.up le58) rfl g69
      rw [ec75] at hS
      obtain rfl:=m78
      refine sf_pu (i:=6) [6,7,8] (blind_of fun _ _ _ h=>h.2) rfl rfl rfl (u_iax Tryz.underlying38 ti3 (et (k20 d0)) (et (k20 d1)) e76) (q20 p2) ?_
      refine sf_rd (i:=7) [7,8] (blind_of fun _ _ _ h=>h.2) rfl rfl rfl (u_load ti3 (et (k20 d2)) ((f77 _ _ _ (hS.get d0) rfl).one d0)) (q20 p3) ?_
      refine sf_pu (i:=8) [8] (blind_of fun _ _ _ h=>h.2) rfl rfl rfl (u_nei (et (k10 d9)) (et (k20 d3))) (q20 p4) ?_
      refine sf_nil ?_
      refine xn ?_
      refine cifd (et (k20 d4)) (fun h82=>?_) (fun h82=>?_)
      · replace h:=iT h82 h
        refine cseq ?_
        refine creg ?_
        refine wl (s_assign ec (dt p4) ?_)
        refine wnil ?_
        refine xn ?_
        refine cret ?_
        refine (fun h=>br (xr (xr (br (xr h))))) ?_
        rw [← ec75] at hS
        obtain rfl:=oI h
        refine ret1 rfl d4 ?_
        exact ⟨_,rfl,le58,hS⟩
      · replace h:=iF h82 h
        refine cskip ?_
        refine (fun h=>bn (xn h)) ?_
        refine creg ?_
        replace h:=bI h; obtain ⟨i83,g84,h⟩:=h
        refine wl (s_addc (et (k10 d3)) ec g84 (dt (q20 p5)) ?_)
        refine wl (s_move (et (k20 d5)) (dt (q10 p3)) ?_)
        refine wnil ?_
        refine xl ?_
        rw [← ec75] at hS
        exact ⟨n_1,_,_,rfl,(aK4 (aO2 (aK7 (aI (aO10 (aO2 aZ)))))),⟨_,i83,rfl,h,le58,hS⟩,Nat.lt_succ_self _⟩
    · replace h:=iF h59 h
      refine cexit ?_
      refine (fun h=>xe (xe (bh h))) ?_
      refine xn ?_
      refine cseq ?_
      refine creg ?_
      refine wl (s_assign ec (dt p4) ?_)
      refine wnil ?_
      refine xn ?_
      refine cret ?_
      obtain rfl:=oI h
      refine ret1 rfl d4 ?_
      exact ⟨_,rfl,le58,hS⟩
theorem vf_fail_w {μ0:M} {w0 w:World} {rsF:List Res} (hg:Le Gm μ0) {b1:Nat} {v2:Value} {v3:Value} {v4:Value} {v5:Value} {v6:Value} {v7:Value} {err_8:Int} {p_2:Int} {r:Int}  (h:vf_fail err_8 p_2=some r) (hS:Sq μ0 w0 w (.blk b1 94 [v2,v3,v4,v5,v6,v7,.int .i64 err_8]::rsF)):CallsV Tryz.prog 57 [.pointer (some ⟨b1,0,none⟩),.int .i64 p_2] w (fun v w'=>∃ (μ':M) ,v=.tuple ⟨[]⟩∧Le μ0 μ'∧Sq μ' w0 w' (.blk b1 94 [v2,v3,v4,v5,v6,v7,.int .i64 r]::rsF)):=by
  unfold vf_fail at h
  refine enter Tryz.func57 rfl (frm:=[_,_,_,_,_,_,_,_,_,_,_,_,_]) rfl ?_
  refine cseq ?_
  refine creg ?_
  refine wl (s_move (et d0) (dt p4) ?_)
  refine wl (s_nilck (et d4) (dt p5) ?_)
  refine wl (s_fa fa94_5 (et d5) rfl (dt p6) ?_)
  refine wl (s_load ti27 (et d6) ((hS.blk d0).cell d6) (dt p7) ?_)
  refine wl (s_eqi (et d7) ec (dt p8) ?_)
  refine wnil ?_
  refine xn ?_
  refine cifd (et d8) (fun h9=>?_) (fun h9=>?_)
  · replace h:=iT h9 h
    refine creg ?_
    refine wl (s_move (et d0) (dt p9) ?_)
    refine wl (s_move (et d1) (dt (q10 p0)) ?_)
    refine wl (s_nilck (et d9) (dt (q10 p1)) ?_)
    refine wl (s_fa fa94_5 (et (k10 d1)) rfl (dt (q10 p2)) ?_)
    refine wl (s_store1 ti27 (et (k10 d2)) (et (k10 d0)) rfl hS d0 p6 rfl p0 dn ?_)
    clear hS; intro w1 hS
    refine wnil ?_
    obtain rfl:=oI h
    refine end0 rfl ?_
    exact ⟨_,rfl,Le.r,hS⟩
  · replace h:=iF h9 h
    refine cskip ?_
    obtain rfl:=oI h
    refine end0 rfl ?_
    exact ⟨_,rfl,Le.r,hS⟩
theorem vf_push_w {μ0:M} {w0 w:World} {rsF:List Res} (hg:Le Gm μ0) {b1:Nat} {v2:Value} {v3:Value} {v4:Value} {v5:Value} {stac_6:List Int} {v7:Value} {cs8:List Value} {v10:Value} {err_11:Int} {p_2:Int} {r:List Int×Int} (m9:Rw μ0 cs8 stac_6) (h:vf_push stac_6 err_11 p_2=some r) (hS:Sq μ0 w0 w (.blk b1 94 [v2,v3,v4,v5,v7,v10,.int .i64 err_11]::.row v7 3 1 stac_6.length cs8::rsF)):CallsV Tryz.prog 61 [.pointer (some ⟨b1,0,none⟩),.int .i64 p_2] w (fun v w'=>∃ (μ':M) (v12:Value) (cs13:List Value),v=.tuple ⟨[]⟩∧Le μ0 μ'∧Sq μ' w0 w' (.blk b1 94 [v2,v3,v4,v5,v12,v10,.int .i64 r.2]::.row v12 3 1 r.1.length cs13::rsF)∧Rw μ' cs13 r.1):=by
  unfold vf_push at h
  refine enter Tryz.func61 rfl (frm:=[_,_,_,_,_,_,_,_,_,_,_,_,_,_,_,_,_,_,_,_,_,_,_,_,_]) rfl ?_
  refine cseq ?_
  refine creg ?_
  refine wl (s_move (et d0) (dt p4) ?_)
  refine wl (s_move (et d0) (dt p5) ?_)
  refine wl (s_nilck (et d5) (dt p6) ?_)
  refine wl (s_fa fa94_4 (et d6) rfl (dt p7) ?_)
  refine wl (s_fa fa92_0 (et d7) rfl (dt p8) ?_)
  refine wl (s_load ti38 (et d8) ((hS.blk d0).cell d4) (dt p9) ?_)
  refine wl (s_move (et d1) (dt (q10 p0)) ?_)
  refine wl (s_bsl Tryz.underlying38 ti3 (Parts.s (et (k10 d0)) rfl Parts.z) rfl rfl hS ?_); clear hS; intro b15 w1 hb16 hS; refine pu (dt (q10 p1)) ?_
  replace h:=bI h; obtain ⟨l19,g20,h⟩:=h
  have m21:Rw μ0 [.int .i64 p_2] [p_2]:=(Rw.one (α:=Int) rfl)
  have m18:=Rw.app m9 m21 g20
  refine wl (s_app1 Tryz.underlying38 ti3 rfl (et d9) (et (k10 d1)) hS d2 (hS.blk d0).cells m21 rfl g20 (by decide) ?_); clear hS; intro v17 w2 rs_ hp_ hS; cases (show _=rs_ from hp_)
  replace hS:=Sep.reput hS p2; refine pu (dt (q10 p2)) ?_
  replace hS:=hS.drop Rm.z
  refine wl (s_nilck (et d4) (dt (q10 p3)) ?_)
  refine wl (s_fa fa94_4 (et (k10 d3)) rfl (dt (q10 p4)) ?_)
  refine wl (s_fa fa92_0 (et (k10 d4)) rfl (dt (q10 p5)) ?_)
  refine wl (s_store1 ti38 (et (k10 d5)) (et (k10 d2)) (hS.get d1).cellV hS d0 p4 rfl p0 dn ?_)
  clear hS; intro w3 hS
  refine wnil ?_
  refine xn ?_
  refine cseq ?_
  refine creg ?_
  refine wl (s_move (et d0) (dt (q10 p6)) ?_)
  refine wl (s_nilck (et (k10 d6)) (dt (q10 p7)) ?_)
  refine wl (s_fa fa94_4 (et (k10 d7)) rfl (dt (q10 p8)) ?_)
  refine wl (s_fa fa92_0 (et (k10 d8)) rfl (dt (q10 p9)) ?_)
  refine wl (s_load ti38 (et (k10 d9)) ((hS.blk d0).cell d4) (dt (q20 p0)) ?_)
  refine wl (s_lenv Tryz.underlying38 (et (k20 d0)) (hS.get d1).isSl (dt (q20 p1)) ?_)
  refine wl (s_gtr (et (k20 d1)) ec (dt (q20 p2)) ?_)
  refine wnil ?_
  refine xn ?_
  refine cifd (et (k20 d2)) (fun h22=>?_) (fun h22=>?_)
  · replace h:=iT h22 h
    refine creg ?_
    refine wl (s_move (et d0) (dt (q20 p3)) ?_)
    replace h:=bI h; obtain ⟨r23,g24,h⟩:=h
    refine wl (s_callv isfn57 ef (e1 (et (k20 d3)) (e1 ec e0)) (vf_fail_w hg g24 hS) ?_)
    rintro _ w4 ⟨μ1,rfl,le25,hS⟩
    refine pu (dt (q20 p4)) ?_
    refine wnil ?_
    obtain rfl:=oI h
    refine end0 rfl ?_
    exact ⟨_,v17,((cs8++[.int .i64 p_2]):List Value),rfl,le25,hS,(m18.up le25)⟩
  · replace h:=iF h22 h
    refine cskip ?_
    obtain rfl:=oI h
    refine end0 rfl ?_
    exact ⟨_,v17,((cs8++[.int .i64 p_2]):List Value),rfl,Le.r,hS,m18⟩
theorem vf_pop_w {μ0:M} {w0 w:World} {rsF:List Res} (hg:Le Gm μ0) {b1:Nat} {v2:Value} {v3:Value} {v4:Value} {v5:Value} {stac_6:List Int} {v7:Value} {cs8:List Value} {v10:Value} {err_11:Int} {r:Int×List Int×Int} (m9:Rw μ0 cs8 stac_6) (h:vf_pop stac_6 err_11=some r) (hS:Sq μ0 w0 w (.blk b1 94 [v2,v3,v4,v5,v7,v10,.int .i64 err_11]::.row v7 3 1 stac_6.length cs8::rsF)):CallsV Tryz.prog 63 [.pointer (some ⟨b1,0,none⟩)] w (fun v w'=>∃ (μ':M) (v12:Value) (cs13:List Value),v=.int .i64 r.1∧Le μ0 μ'∧Sq μ' w0 w' (.blk b1 94 [v2,v3,v4,v5,v12,v10,.int .i64 r.2.2]::.row v12 3 1 r.2.1.length cs13::rsF)∧Rw μ' cs13 r.2.1):=by
  unfold vf_pop at h
  refine enter Tryz.func63 rfl (frm:=[_,_,_,_,_,_,_,_,_,_,_,_,_,_,_,_,_,_,_,_,_,_,_,_,_,_,_,_,_,_,_,_,_,_,_,_,_]) rfl ?_
  refine cseq ?_
  refine creg ?_
  refine wl (s_assign ec (dt p2) ?_)
  refine wnil ?_
  refine xn ?_
  refine cseq ?_
  refine creg ?_
  refine wl (s_move (et d0) (dt p5) ?_)
  refine wl (s_nilck (et d5) (dt p6) ?_)
  refine wl (s_fa fa94_4 (et d6) rfl (dt p7) ?_)
  refine wl (s_fa fa92_0 (et d7) rfl (dt p8) ?_)
  refine wl (s_load ti38 (et d8) ((hS.blk d0).cell d4) (dt p9) ?_)
  refine wl (s_lenv Tryz.underlying38 (et d9) (hS.get d1).isSl (dt (q10 p0)) ?_)
  refine wl (s_assign (et (k10 d0)) (dt p3) ?_)
  refine wnil ?_
  refine xn ?_
  refine cseq ?_
  refine cseq ?_
  refine creg ?_
  refine wl (s_move (et d3) (dt (q10 p1)) ?_)
  refine wl (s_eqi (et (k10 d1)) ec (dt (q10 p2)) ?_)
  refine wnil ?_
  refine xn ?_
  refine cifd (et (k10 d2)) (fun h15=>?_) (fun h15=>?_)
  · replace h:=iT h15 h
    refine cseq ?_
    refine creg ?_
    refine wl (s_move (et d0) (dt (q10 p3)) ?_)
    replace h:=bI h; obtain ⟨r16,g17,h⟩:=h
    refine wl (s_callv isfn57 ef (e1 (et (k10 d3)) (e1 ec e0)) (vf_fail_w hg g17 hS) ?_)
    rintro _ w1 ⟨μ1,rfl,le18,hS⟩
    refine pu (dt (q10 p4)) ?_
    refine wnil ?_
    refine xn ?_
    refine cseq ?_
    refine creg ?_
    refine wl (s_assign ec (dt p2) ?_)
    refine wnil ?_
    refine xn ?_
    refine cret ?_
    refine xr ?_
    obtain rfl:=oI h
    refine ret1 rfl d2 ?_
    exact ⟨_,v7,cs8,rfl,le18,hS,(m9.up le18)⟩
  · replace h:=iF h15 h
    refine cskip ?_
    refine xn ?_
    refine cseq ?_
    refine creg ?_
    refine wl (s_move (et d0) (dt (q10 p5)) ?_)
    refine wl (s_nilck (et (k10 d5)) (dt (q10 p6)) ?_)
    refine wl (s_fa fa94_4 (et (k10 d6)) rfl (dt (q10 p7)) ?_)
    refine wl (s_fa fa92_0 (et (k10 d7)) rfl (dt (q10 p8)) ?_)
    refine wl (s_load ti38 (et (k10 d8)) ((hS.blk d0).cell d4) (dt (q10 p9)) ?_)
    refine wl (s_move (et d3) (dt (q20 p0)) ?_)
    replace h:=bI h; obtain ⟨i19,g20,h⟩:=h
    refine wl (s_subc (et (k20 d0)) ec g20 (dt (q20 p1)) ?_)
    replace h:=bI h; obtain ⟨x21,g22,h⟩:=h
    obtain ⟨b23,o24,pc25,cs26,sc27,ec28,e29,f30,m31,pn32,st33,m34⟩:=Row.elemS (α:=Int) (hS.get d1) m9 rfl g22
    rw [ec28] at hS
    obtain rfl:=m31
    refine wl (s_iax Tryz.underlying38 ti3 (et (k10 d9)) (et (k20 d1)) e29 (dt (q20 p2)) ?_)
    refine wl (s_load ti3 (et (k20 d2)) ((f30 _ _ _ (hS.get d1) rfl).one d0) (dt (q20 p3)) ?_)
    refine wl (s_assign (et (k20 d3)) (dt p4) ?_)
    refine wnil ?_
    refine xn ?_
    refine cseq ?_
    refine creg ?_
    refine wl (s_move (et d0) (dt (q20 p4)) ?_)
    refine wl (s_move (et d0) (dt (q20 p5)) ?_)
    refine wl (s_nilck (et (k20 d5)) (dt (q20 p6)) ?_)
    refine wl (s_fa fa94_4 (et (k20 d6)) rfl (dt (q20 p7)) ?_)
    refine wl (s_fa fa92_0 (et (k20 d7)) rfl (dt (q20 p8)) ?_)
    refine wl (s_load ti38 (et (k20 d8)) ((hS.blk d0).cell d4) (dt (q20 p9)) ?_)
    refine wl (s_move (et d3) (dt (q30 p0)) ?_)
    replace h:=bI h; obtain ⟨i35,g36,h⟩:=h
    refine wl (s_subc (et (k30 d0)) ec g36 (dt (q30 p1)) ?_)
    replace h:=bI h; obtain ⟨l37,g38,h⟩:=h
    obtain ⟨v39,cs44,e40,hb41,hr42,m43⟩:=Row.cutT (α:=Int) (hS.get d1) m34 g38
    replace hS:=hS.reRow d1 hb41 hr42 p1
    refine wl (s_slc Tryz.underlying38 ti3 (et (k20 d9)) .n (.s (et (k30 d1))) e40 (dt (q30 p2)) ?_)
    refine wl (s_nilck (et (k20 d4)) (dt (q30 p3)) ?_)
    refine wl (s_fa fa94_4 (et (k30 d3)) rfl (dt (q30 p4)) ?_)
    refine wl (s_fa fa92_0 (et (k30 d4)) rfl (dt (q30 p5)) ?_)
    refine wl (s_store1 ti38 (et (k30 d5)) (et (k30 d2)) (hS.get d1).cellV hS d0 p4 rfl p0 dn ?_)
    clear hS; intro w2 hS
    refine wnil ?_
    refine xn ?_
    refine cseq ?_
    refine creg ?_
    refine wl (s_move (et d4) (dt (q30 p6)) ?_)
    refine wl (s_assign (et (k30 d6)) (dt p2) ?_)
    refine wnil ?_
    refine xn ?_
    refine cret ?_
    obtain rfl:=oI h
    refine ret1 rfl d2 ?_
    exact ⟨_,v39,cs44,rfl,Le.r,hS,m43⟩
theorem vf_want_w {fu:Nat} {μ0:M} {w0 w:World} {rsF:List Res} (hg:Le Gm μ0) {b1:Nat} {v2:Value} {v3:Value} {v4:Value} {v5:Value} {stac_6:List Int} {v7:Value} {cs8:List Value} {v10:Value} {err_11:Int} {p_2:List Int} {a12:Option Addr} {c13:Nat} {r:List Int×Int} (m9:Rw μ0 cs8 stac_6) (m14:Sl μ0 a12 c13 p_2) (h:vf_want fu stac_6 err_11 p_2=some r) (hS:Sq μ0 w0 w (.blk b1 94 [v2,v3,v4,v5,v7,v10,.int .i64 err_11]::.row v7 3 1 stac_6.length cs8::rsF)):CallsV Tryz.prog 62 [.pointer (some ⟨b1,0,none⟩),.slice a12 p_2.length c13] w (fun v w'=>∃ (μ':M) (v15:Value) (cs16:List Value),v=.tuple ⟨[]⟩∧Le μ0 μ'∧Sq μ' w0 w' (.blk b1 94 [v2,v3,v4,v5,v15,v10,.int .i64 r.2]::.row v15 3 1 r.1.length cs16::rsF)∧Rw μ' cs16 r.1):=by
  unfold vf_want at h
  refine enter Tryz.func62 rfl (frm:=[_,_,_,_,_,_,_,_,_,_,_,_,_,_,_,_,_,_,_,_,_,_,_]) rfl ?_
  refine cseq ?_
  refine creg ?_
  refine wl (s_move (et d1) (dt p6) ?_)
  refine wl (s_lensl Tryz.underlying38 (et d6) (dt p7) ?_)
  replace h:=bI h; obtain ⟨i18,g19,h⟩:=h
  refine wl (s_subc (et d7) ec g19 (dt p8) ?_)
  refine wl (s_assign (et d8) (dt p4) ?_)
  refine wnil ?_
  refine xn ?_
  refine cblock ?_
  refine cloopE ([5]++rg 9 14) (by decide) (fun n m w=>∃ (μx:M) (i40:Int) (i41:Int) (l44:List Int) (v42:Value) (cs43:List Value),m=(yK4 (.i (.int .i64 i40)::(yO1 5 (yK3 (yO10 9 (yO4 19 []))))))∧vf_want_l1 p_2 n i40 i41 l44=some r∧Le μ0 μx∧Sq μx w0 w (.blk b1 94 [v2,v3,v4,v5,v42,v10,.int .i64 i41]::.row v42 3 1 l44.length cs43::rsF)∧Rw μx cs43 l44) (by rintro _ _ _ ⟨_,_,_,_,_,_,rfl,_⟩; rfl) _ _ (aK4 (aI (aO1 (aK3 (aO10 (aO4 aZ)))))) ⟨_,i18,err_11,stac_6,v7,cs8,rfl,h,Le.r,hS,m9⟩ ?_
  rintro n_1 _ t w1 ⟨μ1,i40,i41,l44,v42,cs43,rfl,h,le67,hS,m68⟩
  cases n_1 with
  | zero=>cases h
  | succ n_1 =>
  unfold vf_want_l1 at h
  refine cnrm (mK4 (mi (mO1 (mK3 (mO10 (mO4 mz)))))) ?_
  refine cseq ?_
  refine cseq ?_
  refine creg ?_
  refine wl (s_move (et d4) (dt p9) ?_)
  refine wl (s_geq (et d9) ec (dt (q10 p0)) ?_)
  refine wnil ?_
  refine xn ?_
  refine cifd (et (k10 d0)) (fun h69=>?_) (fun h69=>?_)
  · replace h:=iT h69 h
    refine cskip ?_
    refine xn ?_
    refine cseq ?_
    refine cblock ?_
    refine cseq ?_
    refine creg ?_
    refine wl (s_move (et d0) (dt (q10 p3)) ?_)
    replace h:=bI h; obtain ⟨r70,g71,h⟩:=h
    replace hS:=hS.bg (Bg.s Bg.z)
    replace hS:=hS.bg (Bg.s Bg.z)
    refine wl (s_callv isfn63 ef (e1 (et (k10 d3)) e0) (vf_pop_w (hg.t le67) m68 g71 hS) ?_)
    rintro _ w2 ⟨μ2,v73,cs74,rfl,le72,hS,m75⟩
    refine pu (dt (q10 p4)) ?_
    refine wl (s_assign (et (k10 d4)) (dt p5) ?_)
    refine wnil ?_
    refine xn ?_
    refine cseq ?_
    refine creg ?_
    refine wl (s_move (et d5) (dt (q10 p5)) ?_)
    refine wl (s_move (et d1) (dt (q10 p6)) ?_)
    refine wl (s_move (et d4) (dt (q10 p7)) ?_)
    replace h:=bI h; obtain ⟨x76,g77,h⟩:=h
    obtain ⟨b78,o79,cs80,e81,f82,m83⟩:=SlR.elem (m14.up (le67.t le72)) g77
    obtain rfl:=m83
    refine wl (s_iax Tryz.underlying38 ti3 (et (k10 d6)) (et (k10 d7)) e81 (dt (q10 p8)) ?_)
    refine wl (s_load ti3 (et (k10 d8)) ((f82 _ hS.a).one d0) (dt (q10 p9)) ?_)
    refine wl (s_nei (et (k10 d5)) (et (k10 d9)) (dt (q20 p0)) ?_)
    refine wnil ?_
    refine xn ?_
    refine cifd (et (k20 d0)) (fun h84=>?_) (fun h84=>?_)
    · replace h:=iT h84 h
      refine creg ?_
      refine wl (s_move (et d0) (dt (q20 p1)) ?_)
      replace h:=bI h; obtain ⟨r85,g86,h⟩:=h
      refine wl (s_callv isfn57 ef (e1 (et (k20 d1)) (e1 ec e0)) (vf_fail_w (hg.t (le67.t le72)) g86 hS) ?_)
      rintro _ w3 ⟨μ3,rfl,le87,hS⟩
      refine pu (dt (q20 p2)) ?_
      refine wnil ?_
      refine (fun h=>bn (xn h)) ?_
      refine creg ?_
      refine wl (s_move (et d4) (dt (q10 p1)) ?_)
      replace h:=bI h; obtain ⟨i88,g89,h⟩:=h
      refine wl (s_subc (et (k10 d1)) ec g89 (dt (q10 p2)) ?_)
      refine wl (s_assign (et (k10 d2)) (dt p4) ?_)
      refine wnil ?_
      refine xl ?_
      exact ⟨n_1,_,_,rfl,(aK4 (aI (aO1 (aK3 (aO10 (aO4 aZ)))))),⟨_,i88,r85,r70.2.1,v73,cs74,rfl,h,(le67.t (le72.t le87)),hS,(m75.up le87)⟩,Nat.lt_succ_self _⟩
    · replace h:=iF h84 h
      refine cskip ?_
      refine (fun h=>bn (xn h)) ?_
      refine creg ?_
      refine wl (s_move (et d4) (dt (q10 p1)) ?_)
      replace h:=bI h; obtain ⟨i90,g91,h⟩:=h
      refine wl (s_subc (et (k10 d1)) ec g91 (dt (q10 p2)) ?_)
      refine wl (s_assign (et (k10 d2)) (dt p4) ?_)
      refine wnil ?_
      refine xl ?_
      exact ⟨n_1,_,_,rfl,(aK4 (aI (aO1 (aK3 (aO10 (aO4 aZ)))))),⟨_,i90,r70.2.2,r70.2.1,v73,cs74,rfl,h,(le67.t le72),hS,m75⟩,Nat.lt_succ_self _⟩
  · replace h:=iF h69 h
    refine cexit ?_
    refine (fun h=>xe (xe (bh h))) ?_
    obtain rfl:=oI h
    refine end0 rfl ?_
    exact ⟨_,v42,cs43,rfl,le67,hS,m68⟩
theorem vf_to_w {μ0:M} {w0 w:World} {rsF:List Res} (hg:Le Gm μ0) {b1:Nat} {chec_2:TVc} {b3:Nat} {o4:Nat} {v5:Value} {u_8:TUnit} {b9:Nat} {o10:Nat} {a11:Option Addr} {c12:Nat} {a14:Option Addr} {c15:Nat} {at_18:List (Int×TVs)} {b19:Nat} {es20:List MapEntry} {c21:Nat} {bs22:Bits} {todo_24:List Int} {v25:Value} {cs26:List Value} {stac_28:List Int} {v29:Value} {cs30:List Value} {has_32:List Bool} {v33:Value} {cs34:List Value} {err_36:Int} {p_2:Int} {r:List (Int×TVs)×List Int×List Int×List Bool×Int} (m6:Np μ0 v5 chec_2.m) (m7:At μ0 b3 o4 [v5]) (m13:Sl μ0 a11 c12 u_8.Locals) (m16:Sl μ0 a14 c15 u_8.Code) (m17:At μ0 b9 o10 [.int .i64 u_8.Kind,.int .i64 u_8.Params,.slice a11 u_8.Locals.length c12,.int .i64 u_8.Result,.int .i64 u_8.Takes,.slice a14 u_8.Code.length c15]) (m23:Pil μ0 es20 c21 bs22 at_18) (m27:Rw μ0 cs26 todo_24) (m31:Rw μ0 cs30 stac_28) (m35:Rw μ0 cs34 has_32) (h:vf_to chec_2 u_8 at_18 todo_24 stac_28 has_32 err_36 p_2=some r) (hS:Sq μ0 w0 w (.blk b1 94 [.pointer (some ⟨b3,o4,none⟩),.pointer (some ⟨b9,o10,none⟩),.map (some b19),v25,v29,v33,.int .i64 err_36]::.map b19 es20 c21::.row v25 3 1 todo_24.length cs26::.row v29 3 1 stac_28.length cs30::.row v33 4 1 has_32.length cs34::(bitsRes 4 bs22++rsF))):CallsV Tryz.prog 37 [.pointer (some ⟨b1,0,none⟩),.int .i64 p_2] w (fun v w'=>∃ (μ':M) (es37:List MapEntry) (c38:Nat) (bs39:Bits) (v41:Value) (cs42:List Value) (v44:Value) (cs45:List Value) (v47:Value) (cs48:List Value),v=.tuple ⟨[]⟩∧Le μ0 μ'∧Sq μ' w0 w' (.blk b1 94 [.pointer (some ⟨b3,o4,none⟩),.pointer (some ⟨b9,o10,none⟩),.map (some b19),v41,v44,v47,.int .i64 r.2.2.2.2]::.map b19 es37 c38::.row v41 3 1 r.2.1.length cs42::.row v44 3 1 r.2.2.1.length cs45::.row v47 4 1 r.2.2.2.1.length cs48::(bitsRes 4 bs39++rsF))∧Pil μ' es37 c38 bs39 r.1∧Rw μ' cs42 r.2.1∧Rw μ' cs45 r.2.2.1∧Rw μ' cs48 r.2.2.2.1):=by
  unfold vf_to at h
  refine enter Tryz.func37 rfl (frm:=[_,_,_,_,_,_,_,_,_,_,_,_,_,_,_,_,_,_,_,_,_,_,_,_,_,_,_,_,_,_,_,_,_,_,_,_,_,_,_,_,_,_,_,_,_,_,_,_,_,_,_,_,_,_,_,_,_,_,_,_,_,_,_,_,_,_,_,_,_,_,_,_,_,_,_,_,_,_,_,_,_,_,_,_,_,_,_,_,_,_,_,_,_,_,_,_,_,_,_,_,_,_,_,_,_]) rfl ?_
  refine cseq ?_
  refine cseq ?_
  refine creg ?_
  refine wl (s_move (et d0) (dt p8) ?_)
  refine wl (s_nilck (et d8) (dt p9) ?_)
  refine wl (s_fa fa94_5 (et d9) rfl (dt (q10 p0)) ?_)
  refine wl (s_load ti27 (et (k10 d0)) ((hS.blk d0).cell d6) (dt (q10 p1)) ?_)
  refine wl (s_nei (et (k10 d1)) ec (dt (q10 p2)) ?_)
  refine wnil ?_
  refine xn ?_
  refine cifd (et (k10 d2)) (fun h50=>?_) (fun h50=>?_)
  · replace h:=iT h50 h
    refine cret ?_
    refine xr ?_
    obtain rfl:=oI h
    refine ret0 rfl ?_
    replace hS:Sq μ0 w0 _ (.blk b1 94 [.pointer (some ⟨b3,o4,none⟩),.pointer (some ⟨b9,o10,none⟩),.map (some b19),v25,v29,v33,.int .i64 err_36]::.map b19 es20 c21::.row v25 3 1 todo_24.length cs26::.row v29 3 1 stac_28.length cs30::.row v33 4 1 has_32.length cs34::(bitsRes 4 bs22++rsF)):=hS
    exact ⟨_,es20,c21,bs22,v25,cs26,v29,cs30,v33,cs34,rfl,Le.r,hS,m23,m27,m31,m35⟩
  · replace h:=iF h50 h
    refine cskip ?_
    refine xn ?_
    refine cseq ?_
    refine cseq ?_
    refine creg ?_
    refine wl (s_move (et d1) (dt (q10 p3)) ?_)
    refine wl (s_move (et d0) (dt (q10 p4)) ?_)
    refine wl (s_nilck (et (k10 d4)) (dt (q10 p5)) ?_)
    refine wl (s_fa fa94_1 (et (k10 d5)) rfl (dt (q10 p6)) ?_)
    refine wl (s_load ti70 (et (k10 d6)) ((hS.blk d0).cell d1) (dt (q10 p7)) ?_)
    refine wl (s_nilck (et (k10 d7)) (dt (q10 p8)) ?_)
    refine wl (s_fa fa41_5 (et (k10 d8)) rfl (dt (q10 p9)) ?_)
    refine wl (s_load ti39 (et (k10 d9)) ((m17 _ hS.a).one d5) (dt (q20 p0)) ?_)
    refine wl (s_lensl Tryz.underlying39 (et (k20 d0)) (dt (q20 p1)) ?_)
    refine wl (s_eqi (et (k10 d3)) (et (k20 d1)) (dt (q20 p2)) ?_)
    refine wnil ?_
    refine xn ?_
    refine cifd (et (k20 d2)) (fun h51=>?_) (fun h51=>?_)
    · replace h:=iT h51 h
      refine cseq ?_
      refine creg ?_
      refine wl (s_move (et d0) (dt (q20 p3)) ?_)
      replace h:=bI h; obtain ⟨r52,g53,h⟩:=h
      refine wl (s_callv isfn57 ef (e1 (et (k20 d3)) (e1 ec e0)) (vf_fail_w hg g53 hS) ?_)
      rintro _ w1 ⟨μ1,rfl,le54,hS⟩
      refine pu (dt (q20 p4)) ?_
      refine wnil ?_
      refine xn ?_
      refine cret ?_
      refine xr ?_
      obtain rfl:=oI h
      refine ret0 rfl ?_
      replace hS:Sq μ1 w0 _ (.blk b1 94 [.pointer (some ⟨b3,o4,none⟩),.pointer (some ⟨b9,o10,none⟩),.map (some b19),v25,v29,v33,.int .i64 r52]::.map b19 es20 c21::.row v25 3 1 todo_24.length cs26::.row v29 3 1 stac_28.length cs30::.row v33 4 1 has_32.length cs34::(bitsRes 4 bs22++rsF)):=hS
      exact ⟨_,es20,c21,bs22,v25,cs26,v29,cs30,v33,cs34,rfl,le54,hS,(m23.up le54),(m27.up le54),(m31.up le54),(m35.up le54)⟩
    · replace h:=iF h51 h
      refine cskip ?_
      refine xn ?_
      refine cseq ?_
      refine creg ?_
      refine wl (s_move (et d0) (dt (q20 p6)) ?_)
      refine wl (s_nilck (et (k20 d6)) (dt (q20 p7)) ?_)
      refine wl (s_fa fa94_2 (et (k20 d7)) rfl (dt (q20 p8)) ?_)
      refine wl (s_load ti89 (et (k20 d8)) ((hS.blk d0).cell d2) (dt (q20 p9)) ?_)
      refine wl (s_move (et d1) (dt (q30 p0)) ?_)
      by_cases h55:(mget at_18 p_2).isSome=true
      · replace h:=iT h55 h
        replace h:=bI h; obtain ⟨x57,g58,h⟩:=h
        obtain ⟨bs59,v60,bs61,e62,e56,es63⟩:=pz_get _ _ _ _ m23.has g58
        refine wl (s_pget2 (k:=p_2) Tryz.underlying89 Tryz.underlying3 (et (k20 d9)) (et (k30 d0)) zv92 (hS.get d1) m23.mq e56 ?_); intro a64 c65 m66; refine pu (dt (q30 p1)) ?_
        rw [e62] at hS
        replace hS:Sq μ0 w0 _ (.row v60 4 1 x57.has.length (x57.has.map Value.bool)::.blk b1 94 [.pointer (some ⟨b3,o4,none⟩),.pointer (some ⟨b9,o10,none⟩),.map (some b19),v25,v29,v33,.int .i64 err_36]::.map b19 es20 c21::.row v25 3 1 todo_24.length cs26::.row v29 3 1 stac_28.length cs30::.row v33 4 1 has_32.length cs34::(bitsRes 4 (bs59++bs61)++rsF)):=sep_bOpen (a:=[_,_,_,_,_]) hS
        refine wl (s_move (et (k30 d1)) (dt (q20 p5)) ?_)
        refine wl (s_extr (et (k20 d5)) d0 (dt (q30 p2)) ?_)
        refine wl (s_extr (et (k20 d5)) d1 (dt (q30 p3)) ?_)
        refine wl (s_alloc ti92 hS ?_); clear hS; intro b67 w2 hb68 hS; refine pu (dt p4) ?_
        refine wl (s_storeA ti92 (et d4) (et (k30 d2)) rfl (cv_s rfl (cv_s ((hS.get d1).cellV) cv_z)) hS d0 rfl p0 dn ?_)
        clear hS; intro w3 hS
        refine wl (s_assign (et (k30 d3)) (dt p5) ?_)
        refine wnil ?_
        refine xn ?_
        refine cseq ?_
        refine cseq ?_
        refine creg ?_
        refine wl (s_move (et d5) (dt (q30 p4)) ?_)
        refine wl (s_not (et (k30 d4)) (dt (q30 p5)) ?_)
        refine wnil ?_
        refine xn ?_
        refine ciff (et (k30 d5)) ?_
        refine cskip ?_
        refine xn ?_
        refine cseq ?_
        refine cseq ?_
        refine cdraw (by kernel_rfl) rfl fun w4 hh_ ho_ ht_ hu_=>?_
        replace hS:=hS.drew hh_ ho_ ht_ hu_
        refine sf_start ?_
        refine sf_pu (i:=0) [0,1,7,8] (blind_of fun _ _ _ h=>h.2) rfl rfl rfl (u_fa fa92_0 (et d4) rfl) (q50 p6) ?_
        refine sf_rd (i:=1) [1,7,8] (blind_of fun _ _ _ h=>h.2) rfl rfl rfl (u_load ti38 (et (k50 d6)) ((hS.blk d0).cell d0)) (q50 p7) ?_
        refine sf_pu (i:=2) [2,3,4,5,6,7,8] (blind_of fun _ _ _ h=>h.2) rfl rfl rfl (u_move (et d0)) (q50 p8) ?_
        refine sf_pu (i:=3) [3,4,5,6,7,8] (blind_of fun _ _ _ h=>h.2) rfl rfl rfl (u_nilck (et (k50 d8))) (q50 p9) ?_
        refine sf_pu (i:=4) [4,5,6,7,8] (blind_of fun _ _ _ h=>h.2) rfl rfl rfl (u_fa fa94_4 (et (k50 d9)) rfl) (q60 p0) ?_
        refine sf_pu (i:=5) [5,6,7,8] (blind_of fun _ _ _ h=>h.2) rfl rfl rfl (u_fa fa92_0 (et (k60 d0)) rfl) (q60 p1) ?_
        refine sf_rd (i:=6) [6,7,8] (blind_of fun _ _ _ h=>h.2) rfl rfl rfl (u_load ti38 (et (k60 d1)) ((hS.blk d2).cell d4)) (q60 p2) ?_
        replace h:=bI h; obtain ⟨r69,g70,h⟩:=h
        replace hS:=hS.bg (Bg.s (Bg.s (Bg.s (Bg.s (Bg.s Bg.z)))))
        refine sf1 rfl rfl rfl rfl (wn0 rfl) (s_callv isfn58 ef (e1 (et (k50 d7)) (e1 (et (k60 d2)) e0)) (sl_equal_w hg m66 m31 g70 hS) ?_)
        rintro _ w5 ⟨μ2,rfl,le71,hS⟩
        refine pu (dt (q60 p3)) ?_
        refine ⟨Mons.z,?_⟩
        refine sf_pu (i:=8) [8] (blind_of fun _ _ _ h=>h.2) rfl rfl rfl (u_not (et (k60 d3))) (q60 p4) ?_
        refine sf_nil ?_
        refine xn ?_
        refine cifnb (et (k60 d4)) (fun h72=>?_) (fun h72=>?_)
        · replace h:=iF h72 h
          refine cseq ?_
          refine creg ?_
          refine wl (s_move (et d0) (dt (q60 p5)) ?_)
          replace h:=bI h; obtain ⟨r73,g74,h⟩:=h
          replace hS:=hS.bg (Bg.s (Bg.s (Bg.s Bg.z)))
          refine wl (s_callv isfn57 ef (e1 (et (k60 d5)) (e1 ec e0)) (vf_fail_w (hg.t le71) g74 hS) ?_)
          rintro _ w6 ⟨μ3,rfl,le75,hS⟩
          refine pu (dt (q60 p6)) ?_
          refine wnil ?_
          refine xn ?_
          refine cret ?_
          refine xr ?_
          replace hS:=hS.bg (Bg.s (Bg.s (Bg.s Bg.z)))
          replace hS:Sq μ3 w0 _ (.blk b1 94 [.pointer (some ⟨b3,o4,none⟩),.pointer (some ⟨b9,o10,none⟩),.map (some b19),v25,v29,v33,.int .i64 r73]::.row v29 3 1 stac_28.length cs30::.blk b67 92 [.slice a64 x57.stack.length c65,v60]::.map b19 es20 c21::.row v25 3 1 todo_24.length cs26::.row v33 4 1 has_32.length cs34::(bitsRes 4 (bs59++(v60,x57.has)::bs61)++rsF)):=sep_bClose (a:=[_,_,_,_,_,_]) hS ((rw_bools (μ:=μ0) x57.has).up (le71.t le75))
          rw [← e62] at hS
          obtain rfl:=oI h
          refine ret0 rfl ?_
          replace hS:=hS.drop (Rm.s (Rm.s Rm.z))
          replace hS:=hS.bg (Bg.s (Bg.s (Bg.s (Bg.s Bg.z))))
          replace hS:=hS.bg (Bg.s (Bg.s Bg.z))
          replace hS:=hS.bg (Bg.s (Bg.s (Bg.s (Bg.s Bg.z))))
          replace hS:=hS.bg (Bg.s (Bg.s (Bg.s (Bg.s Bg.z))))
          replace hS:=hS.bg (Bg.s (Bg.s (Bg.s (Bg.s Bg.z))))
          replace hS:Sq μ3 w0 _ (.blk b1 94 [.pointer (some ⟨b3,o4,none⟩),.pointer (some ⟨b9,o10,none⟩),.map (some b19),v25,v29,v33,.int .i64 r73]::.map b19 es20 c21::.row v25 3 1 todo_24.length cs26::.row v29 3 1 stac_28.length cs30::.row v33 4 1 has_32.length cs34::(bitsRes 4 bs22++rsF)):=hS
          exact ⟨_,es20,c21,bs22,v25,cs26,v29,cs30,v33,cs34,rfl,(le71.t le75),hS,(m23.up (le71.t le75)),(m27.up (le71.t le75)),(m31.up (le71.t le75)),(m35.up (le71.t le75))⟩
        · replace h:=iT h72 h
          refine cskip ?_
          refine xn ?_
          refine cseq ?_
          refine creg ?_
          refine wl (s_assign ec (dt p6) ?_)
          refine wnil ?_
          refine xn ?_
          refine cseq ?_
          refine cseq ?_
          refine creg ?_
          refine wl (s_fa fa92_1 (et d4) rfl (dt (q60 p7)) ?_)
          refine wl (s_load ti90 (et (k60 d7)) ((hS.blk d1).cell d1) (dt (q60 p8)) ?_)
          refine wl (s_lenv Tryz.underlying90 (et (k60 d8)) (hS.get d2).isSl (dt (q60 p9)) ?_)
          refine wl (s_move ec (dt (q70 p0)) ?_)
          refine wnil ?_
          refine xn ?_
          refine cblock ?_
          replace hS:=hS.bg (Bg.s Bg.z)
          replace hS:=hS.bg (Bg.s (Bg.s Bg.z))
          replace hS:=hS.bg (Bg.s (Bg.s (Bg.s (Bg.s (Bg.s (Bg.s Bg.z))))))
          replace hS:=hS.bg (Bg.s (Bg.s (Bg.s Bg.z)))
          replace hS:=hS.bg (Bg.s (Bg.s (Bg.s (Bg.s (Bg.s (Bg.s Bg.z))))))
          replace hS:=hS.bg (Bg.s (Bg.s (Bg.s (Bg.s (Bg.s (Bg.s Bg.z))))))
          replace hS:=hS.bg (Bg.s (Bg.s (Bg.s (Bg.s (Bg.s (Bg.s Bg.z))))))
          refine cloopE ([7]++rg 71 23) (by decide +kernel) (fun n m w=>∃ (μx:M) (b128:Bool) (i129:Int) (l132:List Bool) (cs131:List Value),m=(yK6 (.i (.bool b128)::(yO1 7 (yK50 (yK10 (yK2 (.i (.int .i64 i129)::(yO20 71 (yO3 91 [])))))))))∧vf_to_l1 p_2 at_18 todo_24 stac_28 has_32 err_36 x57 n b128 i129 l132=some r∧Le μ2 μx∧Sq μx w0 w (.blk b1 94 [.pointer (some ⟨b3,o4,none⟩),.pointer (some ⟨b9,o10,none⟩),.map (some b19),v25,v29,v33,.int .i64 err_36]::.map b19 es20 c21::.row v25 3 1 todo_24.length cs26::.row v29 3 1 stac_28.length cs30::.row v33 4 1 has_32.length cs34::.row v60 4 1 l132.length cs131::.blk b67 92 [.slice a64 x57.stack.length c65,v60]::(bitsRes 4 (bs59++bs61)++rsF))∧Rw μx cs131 l132) (by rintro _ _ _ ⟨_,_,_,_,_,rfl,_⟩; rfl) _ _ (aK6 (aI (aO1 (aK50 (aK10 (aK2 (aI (aO20 (aO3 aZ))))))))) ⟨_,false,0,x57.has,(x57.has.map Value.bool),rfl,h,Le.r,hS,((rw_bools (μ:=μ0) x57.has).up le71)⟩ ?_
          rintro n_1 _ t w7 ⟨μ4,b128,i129,l132,cs131,rfl,h,le186,hS,m187⟩
          cases n_1 with
          | zero=>cases h
          | succ n_1 =>
          unfold vf_to_l1 at h
          refine cnrm (mK6 (mi (mO1 (mK50 (mK10 (mK2 (mi (mO20 (mO3 mz))))))))) ?_
          refine cseq ?_
          refine creg ?_
          refine wl (s_lss (et (k70 d0)) (et (k60 d9)) (dt (q70 p1)) ?_)
          refine wnil ?_
          refine xn ?_
          refine cseq ?_
          refine cifd (et (k70 d1)) (fun h188=>?_) (fun h188=>?_)
          · replace h:=iT h188 h
            refine cskip ?_
            refine xn ?_
            refine cseq ?_
            refine cblock ?_
            refine cseq ?_
            refine creg ?_
            refine wl (s_move (et (k70 d0)) (dt (q70 p2)) ?_)
            refine wl (s_assign (et (k70 d2)) (dt p7) ?_)
            refine wnil ?_
            refine xn ?_
            refine cseq ?_
            refine ccutE (rg 73 15) (by decide) (fun m w=>∃ (μx:M) (b189:Bool),m=(yK50 (yK20 (yK3 (yO10 73 (yO5 83 (.i (.bool b189)::[]))))))∧vf_to_j1 b128 i129 l132 (vf_to_l1 p_2 at_18 todo_24 stac_28 has_32 err_36 x57 n_1) b189=some r∧Le μ4 μx∧Sq μx w0 w (.blk b1 94 [.pointer (some ⟨b3,o4,none⟩),.pointer (some ⟨b9,o10,none⟩),.map (some b19),v25,v29,v33,.int .i64 err_36]::.map b19 es20 c21::.row v25 3 1 todo_24.length cs26::.row v29 3 1 stac_28.length cs30::.row v33 4 1 has_32.length cs34::.row v60 4 1 l132.length cs131::.blk b67 92 [.slice a64 x57.stack.length c65,v60]::(bitsRes 4 (bs59++bs61)++rsF))) (by rintro _ _ ⟨_,_,rfl,_⟩; rfl) ?_ ?_
            · refine creg ?_
              refine wl (s_fa fa92_1 (et d4) rfl (dt (q70 p3)) ?_)
              refine wl (s_load ti90 (et (k70 d3)) ((hS.blk d6).cell d1) (dt (q70 p4)) ?_)
              refine wl (s_move (et d7) (dt (q70 p5)) ?_)
              replace h:=bI h; obtain ⟨x190,g191,h⟩:=h
              obtain ⟨b192,o193,pc194,cs195,sc196,ec197,e198,f199,m200,pn201,st202,m203⟩:=Row.elemS (α:=Bool) (hS.get d5) m187 rfl g191
              rw [ec197] at hS
              obtain rfl:=m200
              refine wl (s_iax Tryz.underlying90 ti4 (et (k70 d4)) (et (k70 d5)) e198 (dt (q70 p6)) ?_)
              refine wl (s_load ti4 (et (k70 d6)) ((f199 _ _ _ (hS.get d5) rfl).one d0) (dt (q70 p7)) ?_)
              refine wl (s_move (et (k70 d7)) (dt (q70 p8)) ?_)
              refine wspb (k70 d8) (q70 p8) (q70 p8) (fun h204=>?_) (fun h204=>?_)
              · replace h:=iT h204 h
                refine wy rfl (k70 d8) (s_move (et d0) (dt (q70 p9)) ?_)
                refine wy rfl (k70 d8) (s_nilck (et (k70 d9)) (dt (q80 p0)) ?_)
                refine wy rfl (k70 d8) (s_fa fa94_4 (et (k80 d0)) rfl (dt (q80 p1)) ?_)
                refine wy rfl (k70 d8) (s_fa fa92_1 (et (k80 d1)) rfl (dt (q80 p2)) ?_)
                refine wy rfl (k70 d8) (s_load ti90 (et (k80 d2)) ((hS.blk d0).cell d5) (dt (q80 p3)) ?_)
                refine wy rfl (k70 d8) (s_move (et d7) (dt (q80 p4)) ?_)
                replace h:=bI h; obtain ⟨x205,g206,h⟩:=h
                obtain ⟨b207,o208,pc209,cs210,sc211,ec212,e213,f214,m215,pn216,st217,m218⟩:=Row.elemS (α:=Bool) (hS.get d4) (m35.up (le71.t le186)) rfl g206
                rw [ec212] at hS
                obtain rfl:=m215
                refine wy rfl (k70 d8) (s_iax Tryz.underlying90 ti4 (et (k80 d3)) (et (k80 d4)) e213 (dt (q80 p5)) ?_)
                refine wy rfl (k70 d8) (s_load ti4 (et (k80 d5)) ((f214 _ _ _ (hS.get d4) rfl).one d0) (dt (q80 p6)) ?_)
                refine wy rfl (k70 d8) (s_not (et (k80 d6)) (dt (q80 p7)) ?_)
                refine wl (s_pickt (et (k70 d8)) (et (k80 d7)) (dt (q80 p8)) ?_)
                refine wnil ?_
                refine xl ?_
                rw [← ec212] at hS
                rw [← ec197] at hS
                exact ⟨_,_,rfl,(aK50 (aK20 (aK3 (aO10 (aO5 (aI aZ)))))),_,(!x205),rfl,h,Le.r,hS⟩
              · replace h:=iF h204 h
                refine wn rfl (k70 d8) rfl (dt (q70 p9)) ?_
                refine wn rfl (k70 d8) rfl (dt (q80 p0)) ?_
                refine wn rfl (k70 d8) rfl (dt (q80 p1)) ?_
                refine wn rfl (k70 d8) rfl (dt (q80 p2)) ?_
                refine wn rfl (k70 d8) rfl (dt (q80 p3)) ?_
                refine wn rfl (k70 d8) rfl (dt (q80 p4)) ?_
                refine wn rfl (k70 d8) rfl (dt (q80 p5)) ?_
                refine wn rfl (k70 d8) rfl (dt (q80 p6)) ?_
                refine wn rfl (k70 d8) rfl (dt (q80 p7)) ?_
                refine wl (s_pickf (et (k70 d8)) ec (dt (q80 p8)) ?_)
                refine wnil ?_
                refine xl ?_
                rw [← ec197] at hS
                exact ⟨_,_,rfl,(aK50 (aK20 (aK3 (aO10 (aO5 (aI aZ)))))),_,false,rfl,h,Le.r,hS⟩
            · rintro _ t w8 ⟨μ5,b189,rfl,h,le219,hS⟩
              unfold vf_to_j1 at h
              refine nrm (mK50 (mK20 (mK3 (mO10 (mO5 (mi mz)))))) ?_
              refine xn ?_
              refine cifb (et (k80 d8)) (fun h220=>?_) (fun h220=>?_)
              · replace h:=iT h220 h
                refine creg ?_
                refine wl (s_fa fa92_1 (et d4) rfl (dt (q80 p9)) ?_)
                refine wl (s_load ti90 (et (k80 d9)) ((hS.blk d6).cell d1) (dt (q90 p0)) ?_)
                refine wl (s_move (et d7) (dt (q90 p1)) ?_)
                replace h:=bI h; obtain ⟨x221,g222,h⟩:=h
                obtain ⟨b223,o224,pc225,cs226,sc227,ec228,e229,f230,m231,pn232,st233,m234⟩:=Row.elemS (α:=Bool) (hS.get d5) (m187.up le219) rfl g222
                rw [ec228] at hS
                obtain rfl:=m231
                refine wl (s_iax Tryz.underlying90 ti4 (et (k90 d0)) (et (k90 d1)) e229 (dt (q90 p2)) ?_)
                have m235:=st233 _ [.bool false] false Le.r rfl
                refine wl (s_storeR (off:=0) ti4 (et (k90 d2)) ec rfl rfl rfl hS d5 e229 (Nat.le_of_ble_eq_true rfl) (open_store pn232 rfl (Nat.le_of_ble_eq_true rfl)) p5 dn ?_); clear hS; intro w9 hS
                replace hS:Sq μ5 w0 w9 (.blk b1 94 [.pointer (some ⟨b3,o4,none⟩),.pointer (some ⟨b9,o10,none⟩),.map (some b19),v25,v29,v33,.int .i64 err_36]::.map b19 es20 c21::.row v25 3 1 todo_24.length cs26::.row v29 3 1 stac_28.length cs30::.row v33 4 1 has_32.length cs34::.row v60 4 1 (l132.set i129.toNat false).length (pc225++([.bool false]++sc227))::.blk b67 92 [.slice a64 x57.stack.length c65,v60]::(bitsRes 4 (bs59++bs61)++rsF)):=by rw [List.length_set]; exact hS
                refine wl (s_assign ec (dt p6) ?_)
                refine wnil ?_
                refine (fun h=>bn (xn h)) ?_
                refine creg ?_
                replace h:=bI h; obtain ⟨i236,g237,h⟩:=h
                refine wl (s_addc (et (k70 d0)) ec g237 (dt (q90 p3)) ?_)
                refine wl (s_move (et (k90 d3)) (dt (q70 p0)) ?_)
                refine wnil ?_
                refine xl ?_
                exact ⟨n_1,_,_,rfl,(aK6 (aI (aO1 (aK50 (aK10 (aK2 (aI (aO20 (aO3 aZ))))))))),⟨_,true,i236,(l132.set i129.toNat false),(pc225++([.bool false]++sc227)),rfl,h,(le186.t le219),hS,m235⟩,Nat.lt_succ_self _⟩
              · replace h:=iF h220 h
                refine cskip ?_
                refine (fun h=>bn (xn h)) ?_
                refine creg ?_
                replace h:=bI h; obtain ⟨i238,g239,h⟩:=h
                refine wl (s_addc (et (k70 d0)) ec g239 (dt (q90 p3)) ?_)
                refine wl (s_move (et (k90 d3)) (dt (q70 p0)) ?_)
                refine wnil ?_
                refine xl ?_
                exact ⟨n_1,_,_,rfl,(aK6 (aI (aO1 (aK50 (aK10 (aK2 (aI (aO20 (aO3 aZ))))))))),⟨_,b128,i238,l132,cs131,rfl,h,(le186.t le219),hS,(m187.up le219)⟩,Nat.lt_succ_self _⟩
          · replace h:=iF h188 h
            refine cexit ?_
            refine (fun h=>xe (xe (bh h))) ?_
            refine xn ?_
            refine cseq ?_
            refine creg ?_
            refine wl (s_move (et d6) (dt (q90 p4)) ?_)
            refine wnil ?_
            refine xn ?_
            refine cifb (et (k90 d4)) (fun h240=>?_) (fun h240=>?_)
            · replace h:=iT h240 h
              refine creg ?_
              refine wl (s_move (et d0) (dt (q90 p5)) ?_)
              refine wl (s_move (et d0) (dt (q90 p6)) ?_)
              refine wl (s_nilck (et (k90 d6)) (dt (q90 p7)) ?_)
              refine wl (s_fa fa94_3 (et (k90 d7)) rfl (dt (q90 p8)) ?_)
              refine wl (s_load ti38 (et (k90 d8)) ((hS.blk d0).cell d3) (dt (q90 p9)) ?_)
              refine wl (s_move (et d1) (dt (q100 p0)) ?_)
              refine wl (s_bsl Tryz.underlying38 ti3 (Parts.s (et (k100 d0)) rfl Parts.z) rfl rfl hS ?_); clear hS; intro b241 w10 hb242 hS; refine pu (dt (q100 p1)) ?_
              replace h:=bI h; obtain ⟨l245,g246,h⟩:=h
              have m247:Rw μ4 [.int .i64 p_2] [p_2]:=(Rw.one (α:=Int) rfl)
              have m244:=Rw.app (m27.up (le71.t le186)) m247 g246
              refine wl (s_app1 Tryz.underlying38 ti3 rfl (et (k90 d9)) (et (k100 d1)) hS d3 (hS.blk d0).cells m247 rfl g246 (by decide) ?_); clear hS; intro v243 w11 rs_ hp_ hS; cases (show _=rs_ from hp_)
              replace hS:=Sep.reput hS p3; refine pu (dt (q100 p2)) ?_
              replace hS:=hS.drop Rm.z
              refine wl (s_nilck (et (k90 d5)) (dt (q100 p3)) ?_)
              refine wl (s_fa fa94_3 (et (k100 d3)) rfl (dt (q100 p4)) ?_)
              refine wl (s_store1 ti38 (et (k100 d4)) (et (k100 d2)) (hS.get d2).cellV hS d0 p3 rfl p0 dn ?_)
              clear hS; intro w12 hS
              refine wnil ?_
              replace hS:=hS.bg (Bg.s (Bg.s (Bg.s (Bg.s (Bg.s Bg.z)))))
              replace hS:Sq μ4 w0 _ (.blk b1 94 [.pointer (some ⟨b3,o4,none⟩),.pointer (some ⟨b9,o10,none⟩),.map (some b19),v243,v29,v33,.int .i64 err_36]::.map b19 es20 c21::.row v243 3 1 l245.length (cs26++[.int .i64 p_2])::.row v29 3 1 stac_28.length cs30::.row v33 4 1 has_32.length cs34::.blk b67 92 [.slice a64 x57.stack.length c65,v60]::(bitsRes 4 (bs59++(v60,l132)::bs61)++rsF)):=sep_bClose (a:=[_,_,_,_,_,_]) hS m187
              have m248:=Pil.set (m23.up (le71.t le186)) es63 l132
              obtain rfl:=oI h
              refine end0 rfl ?_
              replace hS:=hS.drop (Rm.s (Rm.s (Rm.s (Rm.s (Rm.s Rm.z)))))
              replace hS:Sq μ4 w0 _ (.blk b1 94 [.pointer (some ⟨b3,o4,none⟩),.pointer (some ⟨b9,o10,none⟩),.map (some b19),v243,v29,v33,.int .i64 err_36]::.map b19 es20 c21::.row v243 3 1 l245.length (cs26++[.int .i64 p_2])::.row v29 3 1 stac_28.length cs30::.row v33 4 1 has_32.length cs34::(bitsRes 4 (bs59++(v60,l132)::bs61)++rsF)):=hS
              exact ⟨_,es20,c21,(bs59++(v60,l132)::bs61),v243,((cs26++[.int .i64 p_2]):List Value),v29,cs30,v33,cs34,rfl,(le71.t le186),hS,m248,m244,(m31.up (le71.t le186)),(m35.up (le71.t le186))⟩
            · replace h:=iF h240 h
              refine cskip ?_
              replace hS:=hS.bg (Bg.s (Bg.s (Bg.s (Bg.s (Bg.s Bg.z)))))
              replace hS:Sq μ4 w0 _ (.blk b1 94 [.pointer (some ⟨b3,o4,none⟩),.pointer (some ⟨b9,o10,none⟩),.map (some b19),v25,v29,v33,.int .i64 err_36]::.map b19 es20 c21::.row v25 3 1 todo_24.length cs26::.row v29 3 1 stac_28.length cs30::.row v33 4 1 has_32.length cs34::.blk b67 92 [.slice a64 x57.stack.length c65,v60]::(bitsRes 4 (bs59++(v60,l132)::bs61)++rsF)):=sep_bClose (a:=[_,_,_,_,_,_]) hS m187
              have m249:=Pil.set (m23.up (le71.t le186)) es63 l132
              obtain rfl:=oI h
              refine end0 rfl ?_
              replace hS:=hS.drop (Rm.s (Rm.s (Rm.s (Rm.s (Rm.s Rm.z)))))
              replace hS:Sq μ4 w0 _ (.blk b1 94 [.pointer (some ⟨b3,o4,none⟩),.pointer (some ⟨b9,o10,none⟩),.map (some b19),v25,v29,v33,.int .i64 err_36]::.map b19 es20 c21::.row v25 3 1 todo_24.length cs26::.row v29 3 1 stac_28.length cs30::.row v33 4 1 has_32.length cs34::(bitsRes 4 (bs59++(v60,l132)::bs61)++rsF)):=hS
              exact ⟨_,es20,c21,(bs59++(v60,l132)::bs61),v25,cs26,v29,cs30,v33,cs34,rfl,(le71.t le186),hS,m249,(m27.up (le71.t le186)),(m31.up (le71.t le186)),(m35.up (le71.t le186))⟩
      · replace h:=iF h55 h
        have g251:=mget_no h55; have e250:=pz_no bs22 _ _ g251
        refine wl (s_pget2n (k:=p_2) Tryz.underlying89 Tryz.underlying3 (et (k20 d9)) (et (k30 d0)) zv92 (hS.get d1) m23.mq e250 ?_); refine pu (dt (q30 p1)) ?_
        refine wl (s_move (et (k30 d1)) (dt (q20 p5)) ?_)
        refine wl (s_extr (et (k20 d5)) d0 (dt (q30 p2)) ?_)
        refine wl (s_extr (et (k20 d5)) d1 (dt (q30 p3)) ?_)
        refine wl (s_alloc ti92 hS ?_); clear hS; intro b252 w13 hb253 hS; refine pu (dt p4) ?_
        refine wl (s_storeA ti92 (et d4) (et (k30 d2)) rfl rfl hS d0 rfl p0 dn ?_)
        clear hS; intro w14 hS
        refine wl (s_assign (et (k30 d3)) (dt p5) ?_)
        refine wnil ?_
        refine xn ?_
        refine cseq ?_
        refine cseq ?_
        refine creg ?_
        refine wl (s_move (et d5) (dt (q30 p4)) ?_)
        refine wl (s_not (et (k30 d4)) (dt (q30 p5)) ?_)
        refine wnil ?_
        refine xn ?_
        refine cift (et (k30 d5)) ?_
        refine cseq ?_
        refine ccutE (rg 36 10) (by decide) (fun m w=>∃ (μx:M) (l257:List (Int×TVs)) (es254:List MapEntry) (c255:Nat) (bs256:Bits),m=(yK20 (yK10 (yK6 (yO10 36 []))))∧vf_to_j2 p_2 todo_24 stac_28 has_32 err_36 l257=some r∧Le μ0 μx∧Sq μx w0 w (.blk b1 94 [.pointer (some ⟨b3,o4,none⟩),.pointer (some ⟨b9,o10,none⟩),.map (some b19),v25,v29,v33,.int .i64 err_36]::.map b19 es254 c255::.row v25 3 1 todo_24.length cs26::.row v29 3 1 stac_28.length cs30::.row v33 4 1 has_32.length cs34::(bitsRes 4 bs256++rsF))∧Pil μx es254 c255 bs256 l257) (by rintro _ _ ⟨_,_,_,_,_,rfl,_⟩; rfl) ?_ ?_
        · refine cdraw (by kernel_rfl) rfl fun w15 hh_ ho_ ht_ hu_=>?_
          replace hS:=hS.drew hh_ ho_ ht_ hu_
          refine sf_start ?_
          refine sf_pu (i:=0) [0,1,2,3,10] (blind_of fun _ _ _ h=>h.2) rfl rfl rfl (u_move (et d0)) (q30 p6) ?_
          refine sf_pu (i:=1) [1,2,3,10] (blind_of fun _ _ _ h=>h.2) rfl rfl rfl (u_nilck (et (k30 d6))) (q30 p7) ?_
          refine sf_pu (i:=2) [2,3,10] (blind_of fun _ _ _ h=>h.2) rfl rfl rfl (u_fa fa94_2 (et (k30 d7)) rfl) (q30 p8) ?_
          refine sf_rd (i:=3) [3,10] (blind_of fun _ _ _ h=>h.2) rfl rfl rfl (u_load ti89 (et (k30 d8)) ((hS.blk d1).cell d2)) (q30 p9) ?_
          refine sf_pu (i:=4) [4,10] (blind_of fun _ _ _ h=>h.2) rfl rfl rfl (u_move (et d1)) (q40 p0) ?_
          refine sf_pu (i:=5) [5,6,7,8,9,10] (blind_of fun _ _ _ h=>h.2) rfl rfl rfl (u_move (et d0)) (q40 p1) ?_
          refine sf_pu (i:=6) [6,7,8,9,10] (blind_of fun _ _ _ h=>h.2) rfl rfl rfl (u_nilck (et (k40 d1))) (q40 p2) ?_
          refine sf_pu (i:=7) [7,8,9,10] (blind_of fun _ _ _ h=>h.2) rfl rfl rfl (u_fa fa94_4 (et (k40 d2)) rfl) (q40 p3) ?_
          refine sf_rd (i:=8) [8,9,10] (blind_of fun _ _ _ h=>h.2) rfl rfl rfl (u_loads ti92 (et (k40 d3)) ((hS.blk d1).cellsAt (Sb.s d4 (Sb.s d5 Sb.z))) rfl) (q40 p4) ?_
          replace h:=bI h; obtain ⟨r259,g260,h⟩:=h
          replace hS:=hS.bg (Bg.s (Bg.s (Bg.s (Bg.s (Bg.s Bg.z)))))
          replace hS:=hS.bg (Bg.s (Bg.s (Bg.s (Bg.s (Bg.s Bg.z)))))
          refine sf1 rfl rfl rfl rfl (wn0 rfl) (s_callv isfn38 ef (e1 (et (k40 d4)) e0) (vf_copiedr_w (p_1:=(TVs.mk stac_28 has_32)) hg m31 m35 g260 hS) ?_)
          rintro _ w16 ⟨μ6,v262,cs263,v265,cs266,rfl,le261,hS,m264,m267⟩
          refine pu (dt (q40 p5)) ?_
          refine ⟨(Mons.s (u_load ti89 (et (k30 d8)) ((hS.blk d5).cell d2)) Mons.z),?_⟩
          obtain ⟨μ7,a268,c269,e272,le271,m270,hq_⟩:=Sep.frzRow hS m264 rfl; clear hS
          subst e272; have hS:=hq_; clear hq_
          refine sf1 rfl rfl rfl rfl (wn0 rfl) (s_mputM (κ:=Int) (β:=TShV) (kk:=p_2) (xx:=⟨r259.stack,v265⟩) Tryz.underlying89 Tryz.underlying3 (et (k30 d9)) (et (k40 d0)) (et (k40 d5)) ⟨_,_,rfl,m270⟩ hS d5 (m23.up (le261.t le271)).mq dn ?_); clear hS; intro es273 c274 w17 rs_ m275 hp_ hS; cases (show _=rs_ from hp_)
          replace hS:=Sep.reput hS p5
          have m276:=Pil.new (h:=r259.has) (m23.up (le261.t le271)) g251 m275
          replace hS:Sq μ7 w0 _ (.row v29 3 1 stac_28.length cs30::.row v33 4 1 has_32.length cs34::.blk b252 92 [.slice none 0 0,.slice none 0 0]::.blk b1 94 [.pointer (some ⟨b3,o4,none⟩),.pointer (some ⟨b9,o10,none⟩),.map (some b19),v25,v29,v33,.int .i64 err_36]::.map b19 es273 c274::.row v25 3 1 todo_24.length cs26::(bitsRes 4 (bs22++[(v265,r259.has)])++rsF)):=sep_bNew (a:=[_,_,_,_,_,_]) hS (m267.up le271)
          refine ⟨Mons.z,?_⟩
          refine sf_nil ?_
          refine xl ?_
          replace hS:=hS.drop (Rm.s (Rm.s Rm.z))
          replace hS:=hS.bg (Bg.s Bg.z)
          replace hS:=hS.bg (Bg.s Bg.z)
          replace hS:=hS.bg (Bg.s (Bg.s (Bg.s (Bg.s Bg.z))))
          replace hS:=hS.bg (Bg.s (Bg.s (Bg.s (Bg.s Bg.z))))
          replace hS:=hS.bg (Bg.s (Bg.s (Bg.s (Bg.s Bg.z))))
          exact ⟨_,_,rfl,(aK20 (aK10 (aK6 (aO10 aZ)))),_,(mput at_18 p_2 (TVs.mk r259.stack r259.has)),es273,c274,(bs22++[(v265,r259.has)]),rfl,h,(le261.t le271),hS,m276⟩
        · rintro _ t w18 ⟨μ8,l257,es254,c255,bs256,rfl,h,le277,hS,m278⟩
          unfold vf_to_j2 at h
          refine nrm (mK20 (mK10 (mK6 (mO10 mz)))) ?_
          refine xn ?_
          refine cseq ?_
          refine creg ?_
          refine wl (s_move (et d0) (dt (q40 p6)) ?_)
          refine wl (s_move (et d0) (dt (q40 p7)) ?_)
          refine wl (s_nilck (et (k40 d7)) (dt (q40 p8)) ?_)
          refine wl (s_fa fa94_3 (et (k40 d8)) rfl (dt (q40 p9)) ?_)
          refine wl (s_load ti38 (et (k40 d9)) ((hS.blk d0).cell d3) (dt (q50 p0)) ?_)
          refine wl (s_move (et d1) (dt (q50 p1)) ?_)
          refine wl (s_bsl Tryz.underlying38 ti3 (Parts.s (et (k50 d1)) rfl Parts.z) rfl rfl hS ?_); clear hS; intro b279 w19 hb280 hS; refine pu (dt (q50 p2)) ?_
          replace h:=bI h; obtain ⟨l283,g284,h⟩:=h
          have m285:Rw μ8 [.int .i64 p_2] [p_2]:=(Rw.one (α:=Int) rfl)
          have m282:=Rw.app (m27.up le277) m285 g284
          refine wl (s_app1 Tryz.underlying38 ti3 rfl (et (k50 d0)) (et (k50 d2)) hS d3 (hS.blk d0).cells m285 rfl g284 (by decide) ?_); clear hS; intro v281 w20 rs_ hp_ hS; cases (show _=rs_ from hp_)
          replace hS:=Sep.reput hS p3; refine pu (dt (q50 p3)) ?_
          replace hS:=hS.drop Rm.z
          refine wl (s_nilck (et (k40 d6)) (dt (q50 p4)) ?_)
          refine wl (s_fa fa94_3 (et (k50 d4)) rfl (dt (q50 p5)) ?_)
          refine wl (s_store1 ti38 (et (k50 d5)) (et (k50 d3)) (hS.get d2).cellV hS d0 p3 rfl p0 dn ?_)
          clear hS; intro w21 hS
          refine wnil ?_
          refine xn ?_
          refine cret ?_
          refine xr ?_
          obtain rfl:=oI h
          refine ret0 rfl ?_
          replace hS:Sq μ8 w0 _ (.blk b1 94 [.pointer (some ⟨b3,o4,none⟩),.pointer (some ⟨b9,o10,none⟩),.map (some b19),v281,v29,v33,.int .i64 err_36]::.map b19 es254 c255::.row v281 3 1 l283.length (cs26++[.int .i64 p_2])::.row v29 3 1 stac_28.length cs30::.row v33 4 1 has_32.length cs34::(bitsRes 4 bs256++rsF)):=hS
          exact ⟨_,es254,c255,bs256,v281,((cs26++[.int .i64 p_2]):List Value),v29,cs30,v33,cs34,rfl,le277,hS,m278,m282,(m31.up le277),(m35.up le277)⟩
theorem vf_args_w {fu:Nat} {μ0:M} {w0 w:World} {rsF:List Res} (hg:Le Gm μ0) {b1:Nat} {chec_2:TVc} {b3:Nat} {o4:Nat} {v5:Value} {v8:Value} {v9:Value} {v10:Value} {stac_11:List Int} {v12:Value} {cs13:List Value} {v15:Value} {err_16:Int} {p_2:Int} {r:TUnit×List Int×Int} (m6:Np μ0 v5 chec_2.m) (m7:At μ0 b3 o4 [v5]) (m14:Rw μ0 cs13 stac_11) (h:vf_args fu chec_2 stac_11 err_16 p_2=some r) (hS:Sq μ0 w0 w (.blk b1 94 [.pointer (some ⟨b3,o4,none⟩),v8,v9,v10,v12,v15,.int .i64 err_16]::.row v12 3 1 stac_11.length cs13::rsF)):CallsV Tryz.prog 82 [.pointer (some ⟨b1,0,none⟩),.int .i64 p_2] w (fun v w'=>∃ (μ':M) (b17:Nat) (o18:Nat) (a19:Option Addr) (c20:Nat) (a22:Option Addr) (c23:Nat) (v26:Value) (cs27:List Value),v=.pointer (some ⟨b17,o18,none⟩)∧Le μ0 μ'∧Sq μ' w0 w' (.blk b1 94 [.pointer (some ⟨b3,o4,none⟩),v8,v9,v10,v26,v15,.int .i64 r.2.2]::.row v26 3 1 r.2.1.length cs27::rsF)∧Sl μ' a19 c20 r.1.Locals∧Sl μ' a22 c23 r.1.Code∧At μ' b17 o18 [.int .i64 r.1.Kind,.int .i64 r.1.Params,.slice a19 r.1.Locals.length c20,.int .i64 r.1.Result,.int .i64 r.1.Takes,.slice a22 r.1.Code.length c23]∧Rw μ' cs27 r.2.1):=by
  unfold vf_args at h
  refine enter Tryz.func82 rfl (frm:=[_,_,_,_,_,_,_,_,_,_,_,_,_,_,_,_,_,_,_,_,_,_,_,_,_,_,_,_,_,_]) rfl ?_
  refine cseq ?_
  refine creg ?_
  refine wl (s_assign ec (dt p4) ?_)
  refine wnil ?_
  refine xn ?_
  refine cseq ?_
  refine creg ?_
  refine wl (s_move (et d0) (dt p6) ?_)
  refine wl (s_nilck (et d6) (dt p7) ?_)
  refine wl (s_fa fa94_0 (et d7) rfl (dt p8) ?_)
  refine wl (s_load ti73 (et d8) ((hS.blk d0).cell d0) (dt p9) ?_)
  refine wl (s_nilck (et d9) (dt (q10 p0)) ?_)
  refine wl (s_fa fa75_0 (et (k10 d0)) rfl (dt (q10 p1)) ?_)
  refine wl (s_load ti72 (et (k10 d1)) ((m7 _ hS.a).one d0) (dt (q10 p2)) ?_)
  replace h:=bI h; obtain ⟨x29,g30,h⟩:=h
  obtain ⟨b31,o32,cs33,rfl,f34,m35⟩:=Np.get m6 g30
  obtain ⟨a36,c37,a39,c40,rfl,m38,m41⟩:=m35
  refine wl (s_nilck (et (k10 d2)) (dt (q10 p3)) ?_)
  refine wl (s_fa fa25_1 (et (k10 d3)) rfl (dt (q10 p4)) ?_)
  refine wl (s_load ti23 (et (k10 d4)) ((f34 _ hS.a).one d1) (dt (q10 p5)) ?_)
  refine wl (s_move (et d1) (dt (q10 p6)) ?_)
  replace h:=bI h; obtain ⟨x42,g43,h⟩:=h
  obtain ⟨b44,o45,cs46,e47,f48,m49⟩:=SlR.elem m41 g43
  obtain ⟨a50,c51,a53,c54,rfl,m52,m55⟩:=m49
  refine wl (s_iax Tryz.underlying23 ti41 (et (k10 d5)) (et (k10 d6)) e47 (dt (q10 p7)) ?_)
  refine wl (s_assign (et (k10 d7)) (dt p5) ?_)
  refine wnil ?_
  refine xn ?_
  refine cseq ?_
  refine cdraw (by kernel_rfl) rfl fun w1 hh_ ho_ ht_ hu_=>?_
  replace hS:=hS.drew hh_ ho_ ht_ hu_
  refine sf_start ?_
  refine sf_pu (i:=0) [0,10] (blind_of fun _ _ _ h=>h.2) rfl rfl rfl (u_move (et d0)) (q10 p8) ?_
  refine sf_pu (i:=1) [1,2,3,4,9,10] (blind_of fun _ _ _ h=>h.2) rfl rfl rfl (u_move (et d5)) (q10 p9) ?_
  refine sf_pu (i:=2) [2,3,4,9,10] (blind_of fun _ _ _ h=>h.2) rfl rfl rfl (u_nilck (et (k10 d9))) (q20 p0) ?_
  refine sf_pu (i:=3) [3,4,9,10] (blind_of fun _ _ _ h=>h.2) rfl rfl rfl (u_fa fa41_2 (et (k20 d0)) rfl) (q20 p1) ?_
  refine sf_rd (i:=4) [4,9,10] (blind_of fun _ _ _ h=>h.2) rfl rfl rfl (u_load ti38 (et (k20 d1)) ((f48 _ hS.a).one d2)) (q20 p2) ?_
  refine sf_pu (i:=5) [5,6,7,8,9,10] (blind_of fun _ _ _ h=>h.2) rfl rfl rfl (u_move (et d5)) (q20 p3) ?_
  refine sf_pu (i:=6) [6,7,8,9,10] (blind_of fun _ _ _ h=>h.2) rfl rfl rfl (u_nilck (et (k20 d3))) (q20 p4) ?_
  refine sf_pu (i:=7) [7,8,9,10] (blind_of fun _ _ _ h=>h.2) rfl rfl rfl (u_fa fa41_1 (et (k20 d4)) rfl) (q20 p5) ?_
  refine sf_rd (i:=8) [8,9,10] (blind_of fun _ _ _ h=>h.2) rfl rfl rfl (u_load ti3 (et (k20 d5)) ((f48 _ hS.a).one d1)) (q20 p6) ?_
  replace h:=bI h; obtain ⟨l56,g57,h⟩:=h
  obtain ⟨a58,c59,e60,m61⟩:=Sl.slc (i:=none) (j:=some x42.Params) m52 g57
  refine sf_pu (i:=9) [9,10] (blind_of fun _ _ _ h=>h.2) rfl rfl rfl (u_slc Tryz.underlying38 ti3 (et (k20 d2)) .n (.s (et (k20 d6))) e60) (q20 p7) ?_
  replace h:=bI h; obtain ⟨r62,g63,h⟩:=h
  replace hS:=hS.bg (Bg.s Bg.z)
  replace hS:=hS.bg (Bg.s Bg.z)
  refine sf1 rfl rfl rfl rfl (wn0 rfl) (s_callv isfn62 ef (e1 (et (k10 d8)) (e1 (et (k20 d7)) e0)) (vf_want_w hg m14 m61 g63 hS) ?_)
  rintro _ w2 ⟨μ1,v65,cs66,rfl,le64,hS,m67⟩
  refine pu (dt (q20 p8)) ?_
  refine ⟨Mons.z,?_⟩
  refine sf_nil ?_
  refine xn ?_
  refine cseq ?_
  refine creg ?_
  refine wl (s_move (et d5) (dt (q20 p9)) ?_)
  refine wl (s_assign (et (k20 d9)) (dt p4) ?_)
  refine wnil ?_
  refine xn ?_
  refine cret ?_
  obtain rfl:=oI h
  refine ret1 rfl d4 ?_
  exact ⟨_,b44,o45,a50,c51,a53,c54,v65,cs66,rfl,le64,hS,(m52.up le64),(m55.up le64),(f48.up le64),m67⟩
theorem vf_gen_w {μ0:M} {w0 w:World} {rsF:List Res} (hg:Le Gm μ0) {b1:Nat} {chec_2:TVc} {b3:Nat} {o4:Nat} {v5:Value} {v8:Value} {v9:Value} {v10:Value} {stac_11:List Int} {v12:Value} {cs13:List Value} {v15:Value} {err_16:Int} {r:Option TUnit×List Int×Int} (m6:Np μ0 v5 chec_2.m) (m7:At μ0 b3 o4 [v5]) (m14:Rw μ0 cs13 stac_11) (h:vf_gen chec_2 stac_11 err_16=some r) (hS:Sq μ0 w0 w (.blk b1 94 [.pointer (some ⟨b3,o4,none⟩),v8,v9,v10,v12,v15,.int .i64 err_16]::.row v12 3 1 stac_11.length cs13::rsF)):CallsV Tryz.prog 84 [.pointer (some ⟨b1,0,none⟩)] w (fun v w'=>∃ (μ':M) (v17:Value) (v19:Value) (cs20:List Value),v=v17∧Le μ0 μ'∧Sq μ' w0 w' (.blk b1 94 [.pointer (some ⟨b3,o4,none⟩),v8,v9,v10,v19,v15,.int .i64 r.2.2]::.row v19 3 1 r.2.1.length cs20::rsF)∧Np μ' v17 r.1∧Rw μ' cs20 r.2.1):=by
  unfold vf_gen at h
  refine enter Tryz.func84 rfl (frm:=[_,_,_,_,_,_,_,_,_,_,_,_,_,_,_,_,_,_,_,_,_,_,_,_,_,_,_,_,_,_,_,_,_]) rfl ?_
  refine cseq ?_
  refine creg ?_
  refine wl (s_assign ec (dt p2) ?_)
  refine wnil ?_
  refine xn ?_
  refine cseq ?_
  refine creg ?_
  refine wl (s_move (et d0) (dt p4) ?_)
  replace h:=bI h; obtain ⟨r22,g23,h⟩:=h
  replace hS:=hS.bg (Bg.s Bg.z)
  replace hS:=hS.bg (Bg.s Bg.z)
  refine wl (s_callv isfn63 ef (e1 (et d4) e0) (vf_pop_w hg m14 g23 hS) ?_)
  rintro _ w1 ⟨μ1,v25,cs26,rfl,le24,hS,m27⟩
  refine pu (dt p5) ?_
  refine wl (s_assign (et d5) (dt p3) ?_)
  refine wnil ?_
  refine xn ?_
  refine cseq ?_
  refine cseq ?_
  refine creg ?_
  refine wl (s_move (et d0) (dt p6) ?_)
  refine wl (s_nilck (et d6) (dt p7) ?_)
  refine wl (s_fa fa94_5 (et d7) rfl (dt p8) ?_)
  refine wl (s_load ti27 (et d8) ((hS.blk d0).cell d6) (dt p9) ?_)
  refine wl (s_nei (et d9) ec (dt (q10 p0)) ?_)
  refine wnil ?_
  refine xn ?_
  refine cifd (et (k10 d0)) (fun h28=>?_) (fun h28=>?_)
  · replace h:=iT h28 h
    refine cseq ?_
    refine creg ?_
    refine wl (s_assign ec (dt p2) ?_)
    refine wnil ?_
    refine xn ?_
    refine cret ?_
    refine xr ?_
    obtain rfl:=oI h
    refine ret1 rfl d2 ?_
    exact ⟨_,(.pointer none),v25,cs26,rfl,le24,hS,rfl,m27⟩
  · replace h:=iF h28 h
    refine cskip ?_
    refine xn ?_
    refine cseq ?_
    refine cseq ?_
    refine creg ?_
    refine wl (s_move (et d0) (dt (q10 p1)) ?_)
    refine wl (s_nilck (et (k10 d1)) (dt (q10 p2)) ?_)
    refine wl (s_fa fa94_0 (et (k10 d2)) rfl (dt (q10 p3)) ?_)
    refine wl (s_load ti73 (et (k10 d3)) ((hS.blk d0).cell d0) (dt (q10 p4)) ?_)
    refine wl (s_move (et d3) (dt (q10 p5)) ?_)
    replace h:=bI h; obtain ⟨r29,g30,h⟩:=h
    refine wl (s_callv isfn55 ef (e1 (et (k10 d4)) (e1 (et (k10 d5)) e0)) (vf_handle_w (hg.t le24) (m6.up le24) (m7.up le24) g30 hS) ?_)
    rintro _ w2 ⟨μ2,rfl,le31,hS⟩
    refine pu (dt (q10 p6)) ?_
    refine wl (s_not (et (k10 d6)) (dt (q10 p7)) ?_)
    refine wnil ?_
    refine xn ?_
    refine cifnb (et (k10 d7)) (fun h32=>?_) (fun h32=>?_)
    · replace h:=iF h32 h
      refine cseq ?_
      refine creg ?_
      refine wl (s_move (et d0) (dt (q10 p8)) ?_)
      replace h:=bI h; obtain ⟨r33,g34,h⟩:=h
      refine wl (s_callv isfn57 ef (e1 (et (k10 d8)) (e1 ec e0)) (vf_fail_w (hg.t (le24.t le31)) g34 hS) ?_)
      rintro _ w3 ⟨μ3,rfl,le35,hS⟩
      refine pu (dt (q10 p9)) ?_
      refine wnil ?_
      refine xn ?_
      refine cseq ?_
      refine creg ?_
      refine wl (s_assign ec (dt p2) ?_)
      refine wnil ?_
      refine xn ?_
      refine cret ?_
      refine xr ?_
      obtain rfl:=oI h
      refine ret1 rfl d2 ?_
      exact ⟨_,(.pointer none),v25,cs26,rfl,(le24.t (le31.t le35)),hS,rfl,(m27.up (le31.t le35))⟩
    · replace h:=iT h32 h
      refine cskip ?_
      refine xn ?_
      refine cseq ?_
      refine creg ?_
      refine wl (s_move (et d0) (dt (q20 p0)) ?_)
      refine wl (s_nilck (et (k20 d0)) (dt (q20 p1)) ?_)
      refine wl (s_fa fa94_0 (et (k20 d1)) rfl (dt (q20 p2)) ?_)
      refine wl (s_load ti73 (et (k20 d2)) ((hS.blk d0).cell d0) (dt (q20 p3)) ?_)
      refine wl (s_nilck (et (k20 d3)) (dt (q20 p4)) ?_)
      refine wl (s_fa fa75_0 (et (k20 d4)) rfl (dt (q20 p5)) ?_)
      refine wl (s_load ti72 (et (k20 d5)) ((m7 _ ((le24.t le31) _ hS.a)).one d0) (dt (q20 p6)) ?_)
      replace h:=bI h; obtain ⟨x36,g37,h⟩:=h
      obtain ⟨b38,o39,cs40,rfl,f41,m42⟩:=Np.get (m6.up (le24.t le31)) g37
      obtain ⟨a43,c44,a46,c47,rfl,m45,m48⟩:=m42
      refine wl (s_nilck (et (k20 d6)) (dt (q20 p7)) ?_)
      refine wl (s_fa fa25_1 (et (k20 d7)) rfl (dt (q20 p8)) ?_)
      refine wl (s_load ti23 (et (k20 d8)) ((f41 _ hS.a).one d1) (dt (q20 p9)) ?_)
      refine wl (s_move (et d3) (dt (q30 p0)) ?_)
      replace h:=bI h; obtain ⟨i49,g50,h⟩:=h
      refine wl (s_subc (et (k30 d0)) ec g50 (dt (q30 p1)) ?_)
      replace h:=bI h; obtain ⟨x51,g52,h⟩:=h
      obtain ⟨b53,o54,cs55,e56,f57,m58⟩:=SlR.elem m48 g52
      obtain ⟨a59,c60,a62,c63,rfl,m61,m64⟩:=m58
      refine wl (s_iax Tryz.underlying23 ti41 (et (k20 d9)) (et (k30 d1)) e56 (dt (q30 p2)) ?_)
      refine wl (s_assign (et (k30 d2)) (dt p2) ?_)
      refine wnil ?_
      refine xn ?_
      refine cret ?_
      obtain rfl:=oI h
      refine ret1 rfl d2 ?_
      exact ⟨_,(.pointer (some ⟨b53,o54,none⟩)),v25,cs26,rfl,(le24.t le31),hS,(Np.of (α:=TUnit) f57 (TUnit.i ⟨a59,c60,a62,c63,rfl,m61,m64⟩)),(m27.up le31)⟩
theorem vf_done_w {μ0:M} {w0 w:World} {rsF:List Res} (hg:Le Gm μ0) {b1:Nat} {v2:Value} {v3:Value} {v4:Value} {v5:Value} {stac_6:List Int} {v7:Value} {cs8:List Value} {v10:Value} {err_11:Int} {r:Bool×List Int×Int} (m9:Rw μ0 cs8 stac_6) (h:vf_done stac_6 err_11=some r) (hS:Sq μ0 w0 w (.blk b1 94 [v2,v3,v4,v5,v7,v10,.int .i64 err_11]::.row v7 3 1 stac_6.length cs8::rsF)):CallsV Tryz.prog 83 [.pointer (some ⟨b1,0,none⟩)] w (fun v w'=>∃ (μ':M) (v12:Value) (cs13:List Value),v=.bool r.1∧Le μ0 μ'∧Sq μ' w0 w' (.blk b1 94 [v2,v3,v4,v5,v12,v10,.int .i64 r.2.2]::.row v12 3 1 r.2.1.length cs13::rsF)∧Rw μ' cs13 r.2.1):=by
  unfold vf_done at h
  refine enter Tryz.func83 rfl (frm:=[_,_,_,_,_,_,_,_,_,_,_,_]) rfl ?_
  refine cseq ?_
  refine creg ?_
  refine wl (s_assign ec (dt p2) ?_)
  refine wnil ?_
  refine xn ?_
  refine cseq ?_
  refine cseq ?_
  refine creg ?_
  refine wl (s_move (et d0) (dt p3) ?_)
  refine wl (s_nilck (et d3) (dt p4) ?_)
  refine wl (s_fa fa94_4 (et d4) rfl (dt p5) ?_)
  refine wl (s_fa fa92_0 (et d5) rfl (dt p6) ?_)
  refine wl (s_load ti38 (et d6) ((hS.blk d0).cell d4) (dt p7) ?_)
  refine wl (s_lenv Tryz.underlying38 (et d7) (hS.get d1).isSl (dt p8) ?_)
  refine wl (s_gtr (et d8) ec (dt p9) ?_)
  refine wnil ?_
  refine xn ?_
  refine ccutE (rg 10 2) (by decide) (fun m w=>∃ (μx:M) (i15:Int),m=(yK10 (yO2 10 []))∧vf_done_j1 stac_6 i15=some r∧Le μ0 μx∧Sq μx w0 w (.blk b1 94 [v2,v3,v4,v5,v7,v10,.int .i64 i15]::.row v7 3 1 stac_6.length cs8::rsF)) (by rintro _ _ ⟨_,_,rfl,_⟩; rfl) ?_ ?_
  · refine cifd (et d9) (fun h16=>?_) (fun h16=>?_)
    · replace h:=iT h16 h
      refine creg ?_
      refine wl (s_move (et d0) (dt (q10 p0)) ?_)
      replace h:=bI h; obtain ⟨r17,g18,h⟩:=h
      refine wl (s_callv isfn57 ef (e1 (et (k10 d0)) (e1 ec e0)) (vf_fail_w hg g18 hS) ?_)
      rintro _ w1 ⟨μ1,rfl,le19,hS⟩
      refine pu (dt (q10 p1)) ?_
      refine wnil ?_
      refine xl ?_
      exact ⟨_,_,rfl,(aK10 (aO2 aZ)),_,r17,rfl,h,le19,hS⟩
    · replace h:=iF h16 h
      refine cskip ?_
      refine xl ?_
      exact ⟨_,_,rfl,(aK10 (aO2 aZ)),_,err_11,rfl,h,Le.r,hS⟩
  · rintro _ t w2 ⟨μ2,i15,rfl,h,le20,hS⟩
    unfold vf_done_j1 at h
    refine nrm (mK10 (mO2 mz)) ?_
    refine xn ?_
    refine cseq ?_
    refine creg ?_
    refine wl (s_assign ec (dt p2) ?_)
    refine wnil ?_
    refine xn ?_
    refine cret ?_
    obtain rfl:=oI h
    refine ret1 rfl d2 ?_
    exact ⟨_,v7,cs8,rfl,le20,hS,(m9.up le20)⟩
theorem vf_special_w {fu:Nat} {μ0:M} {w0 w:World} {rsF:List Res} (hg:Le Gm μ0) {b1:Nat} {chec_2:TVc} {b3:Nat} {o4:Nat} {v5:Value} {u_8:TUnit} {b9:Nat} {o10:Nat} {a11:Option Addr} {c12:Nat} {a14:Option Addr} {c15:Nat} {at_18:List (Int×TVs)} {b19:Nat} {es20:List MapEntry} {c21:Nat} {bs22:Bits} {todo_24:List Int} {v25:Value} {cs26:List Value} {stac_28:List Int} {v29:Value} {cs30:List Value} {has_32:List Bool} {v33:Value} {cs34:List Value} {err_36:Int} {p_2:TInstr} {r:Bool×List (Int×TVs)×List Int×List Int×List Bool×Int} (m6:Np μ0 v5 chec_2.m) (m7:At μ0 b3 o4 [v5]) (m13:Sl μ0 a11 c12 u_8.Locals) (m16:Sl μ0 a14 c15 u_8.Code) (m17:At μ0 b9 o10 [.int .i64 u_8.Kind,.int .i64 u_8.Params,.slice a11 u_8.Locals.length c12,.int .i64 u_8.Result,.int .i64 u_8.Takes,.slice a14 u_8.Code.length c15]) (m23:Pil μ0 es20 c21 bs22 at_18) (m27:Rw μ0 cs26 todo_24) (m31:Rw μ0 cs30 stac_28) (m35:Rw μ0 cs34 has_32) (h:vf_special fu chec_2 u_8 at_18 todo_24 stac_28 has_32 err_36 p_2=some r) (hS:Sq μ0 w0 w (.blk b1 94 [.pointer (some ⟨b3,o4,none⟩),.pointer (some ⟨b9,o10,none⟩),.map (some b19),v25,v29,v33,.int .i64 err_36]::.map b19 es20 c21::.row v25 3 1 todo_24.length cs26::.row v29 3 1 stac_28.length cs30::.row v33 4 1 has_32.length cs34::(bitsRes 4 bs22++rsF))):CallsV Tryz.prog 64 [.pointer (some ⟨b1,0,none⟩),.agg ⟨[.int .i64 p_2.Op,.int .i64 p_2.A,.int .i64 p_2.N]⟩] w (fun v w'=>∃ (μ':M) (es37:List MapEntry) (c38:Nat) (bs39:Bits) (v41:Value) (cs42:List Value) (v44:Value) (cs45:List Value) (v47:Value) (cs48:List Value),v=.bool r.1∧Le μ0 μ'∧Sq μ' w0 w' (.blk b1 94 [.pointer (some ⟨b3,o4,none⟩),.pointer (some ⟨b9,o10,none⟩),.map (some b19),v41,v44,v47,.int .i64 r.2.2.2.2.2]::.map b19 es37 c38::.row v41 3 1 r.2.2.1.length cs42::.row v44 3 1 r.2.2.2.1.length cs45::.row v47 4 1 r.2.2.2.2.1.length cs48::(bitsRes 4 bs39++rsF))∧Pil μ' es37 c38 bs39 r.2.1∧Rw μ' cs42 r.2.2.1∧Rw μ' cs45 r.2.2.2.1∧Rw μ' cs48 r.2.2.2.2.1):=by
  unfold vf_special at h
  refine enter Tryz.func64 rfl (frm:=[_,_,_,_,_,_,_,_,_,_,_,_,_,_,_,_,_,_,_,_,_,_,_,_,_,_,_,_,_,_,_,_,_,_,_,_,_,_,_,_,_,_,_,_,_,_,_,_,_,_,_,_,_,_,_,_,_,_,_,_,_,_,_,_,_,_,_,_,_,_,_,_,_,_,_,_,_,_,_,_,_,_,_,_,_,_,_,_,_,_,_,_,_,_,_,_,_,_,_,_,_,_,_,_,_,_,_,_,_,_,_,_,_,_,_,_,_,_,_,_,_,_,_,_,_,_,_,_,_,_,_,_,_,_,_,_,_,_,_,_,_,_,_,_,_,_,_,_,_,_,_,_,_,_,_,_,_,_,_,_,_,_,_,_,_,_,_,_,_,_,_,_,_,_,_,_,_,_,_,_,_,_,_,_]) rfl ?_
  refine cseq ?_
  refine creg ?_
  refine wl (s_box (et d1) rfl hS ?_); clear hS; intro b50 w1 hb51 hS; refine pu (dt p3) ?_
  refine wl (s_assign ec (dt p4) ?_)
  refine wnil ?_
  refine xn ?_
  refine cseq ?_
  refine cseq ?_
  refine creg ?_
  refine wl (s_fa fa43_0 (et d3) rfl (dt p8) ?_)
  refine wl (s_load ti3 (et d8) ((hS.blk d0).cell d0) (dt p9) ?_)
  refine wnil ?_
  refine xn ?_
  refine ccutE (rg 4 4++rg 10 174) (by decide +kernel) (fun m w=>∃ (μx:M) (i52:Int) (l55:List Int) (v53:Value) (cs54:List Value),m=(yK4 (yO4 4 (yK2 (yO50 10 (yO50 60 (yO50 110 (yO20 160 (yO4 180 []))))))))∧vf_special_j1 at_18 todo_24 has_32 i52 l55=some r∧Le μ0 μx∧Sq μx w0 w (.blk b1 94 [.pointer (some ⟨b3,o4,none⟩),.pointer (some ⟨b9,o10,none⟩),.map (some b19),v25,v53,v33,.int .i64 i52]::.map b19 es20 c21::.row v25 3 1 todo_24.length cs26::.row v53 3 1 l55.length cs54::.row v33 4 1 has_32.length cs34::(bitsRes 4 bs22++rsF))∧Rw μx cs54 l55) (by rintro _ _ ⟨_,_,_,_,_,rfl,_⟩; rfl) ?_ ?_
  · refine cblock ?_
    refine cseq ?_
    refine creg ?_
    refine wl (s_eqi (et d9) ec (dt (q10 p1)) ?_)
    refine wl (s_assign (et (k10 d1)) (dt (q10 p0)) ?_)
    refine wnil ?_
    refine xn ?_
    refine cifd (et (k10 d0)) (fun h57=>?_) (fun h57=>?_)
    · replace h:=iT h57 h
      refine creg ?_
      refine wl (s_move (et d0) (dt (q10 p2)) ?_)
      refine wl (s_move (et d0) (dt (q10 p3)) ?_)
      refine wl (s_fa fa43_1 (et d3) rfl (dt (q10 p4)) ?_)
      refine wl (s_load ti3 (et (k10 d4)) ((hS.blk d0).cell d1) (dt (q10 p5)) ?_)
      replace h:=bI h; obtain ⟨r58,g59,h⟩:=h
      replace hS:=hS.bg (Bg.s (Bg.s (Bg.s (Bg.s Bg.z))))
      replace hS:=hS.bg (Bg.s (Bg.s Bg.z))
      refine wl (s_callv isfn82 ef (e1 (et (k10 d3)) (e1 (et (k10 d5)) e0)) (vf_args_w hg m6 m7 m31 g59 hS) ?_)
      rintro _ w2 ⟨μ1,b61,o62,a63,c64,a66,c67,v70,cs71,rfl,le60,hS,m65,m68,m69,m72⟩
      refine pu (dt (q10 p6)) ?_
      refine wl (s_nilck (et (k10 d6)) (dt (q10 p7)) ?_)
      refine wl (s_fa fa41_3 (et (k10 d7)) rfl (dt (q10 p8)) ?_)
      refine wl (s_load ti3 (et (k10 d8)) ((m69 _ hS.a).one d3) (dt (q10 p9)) ?_)
      replace h:=bI h; obtain ⟨r73,g74,h⟩:=h
      replace hS:=hS.bg (Bg.s Bg.z)
      replace hS:=hS.bg (Bg.s Bg.z)
      refine wl (s_callv isfn61 ef (e1 (et (k10 d2)) (e1 (et (k10 d9)) e0)) (vf_push_w (hg.t le60) m72 g74 hS) ?_)
      rintro _ w3 ⟨μ2,v76,cs77,rfl,le75,hS,m78⟩
      refine pu (dt (q20 p0)) ?_
      refine wnil ?_
      refine (fun h=>bn (xl h)) ?_
      replace hS:=hS.drop (Rm.s (Rm.s Rm.z))
      replace hS:=hS.bg (Bg.s (Bg.s (Bg.s (Bg.s Bg.z))))
      replace hS:=hS.bg (Bg.s (Bg.s Bg.z))
      replace hS:=hS.bg (Bg.s (Bg.s (Bg.s (Bg.s Bg.z))))
      replace hS:=hS.bg (Bg.s (Bg.s (Bg.s (Bg.s Bg.z))))
      replace hS:=hS.bg (Bg.s (Bg.s (Bg.s (Bg.s Bg.z))))
      exact ⟨_,_,rfl,(aK4 (aO4 (aK2 (aO50 (aO50 (aO50 (aO20 (aO4 aZ)))))))),_,r73.2,r73.1,v76,cs77,rfl,h,(le60.t le75),hS,m78⟩
    · replace h:=iF h57 h
      refine cseq ?_
      refine creg ?_
      refine wl (s_eqi (et d9) ec (dt (q20 p2)) ?_)
      refine wl (s_assign (et (k20 d2)) (dt (q20 p1)) ?_)
      refine wnil ?_
      refine xn ?_
      refine cifd (et (k20 d1)) (fun h79=>?_) (fun h79=>?_)
      · replace h:=iT h79 h
        refine cseq ?_
        refine creg ?_
        refine wl (s_move (et d0) (dt (q20 p3)) ?_)
        refine wl (s_fa fa43_1 (et d3) rfl (dt (q20 p4)) ?_)
        refine wl (s_load ti3 (et (k20 d4)) ((hS.blk d0).cell d1) (dt (q20 p5)) ?_)
        replace h:=bI h; obtain ⟨r80,g81,h⟩:=h
        replace hS:=hS.bg (Bg.s (Bg.s (Bg.s (Bg.s Bg.z))))
        replace hS:=hS.bg (Bg.s (Bg.s Bg.z))
        refine wl (s_callv isfn82 ef (e1 (et (k20 d3)) (e1 (et (k20 d5)) e0)) (vf_args_w hg m6 m7 m31 g81 hS) ?_)
        rintro _ w4 ⟨μ3,b83,o84,a85,c86,a88,c89,v92,cs93,rfl,le82,hS,m87,m90,m91,m94⟩
        refine pu (dt (q20 p6)) ?_
        refine wnil ?_
        refine xn ?_
        refine creg ?_
        refine wl (s_move (et d0) (dt (q20 p7)) ?_)
        refine wl (s_fa fa43_1 (et d3) rfl (dt (q20 p8)) ?_)
        refine wl (s_load ti3 (et (k20 d8)) ((hS.blk d2).cell d1) (dt (q20 p9)) ?_)
        replace h:=bI h; obtain ⟨i95,g96,h⟩:=h
        refine wl (s_addc ec (et (k20 d9)) g96 (dt (q30 p0)) ?_)
        replace h:=bI h; obtain ⟨r97,g98,h⟩:=h
        replace hS:=hS.bg (Bg.s Bg.z)
        replace hS:=hS.bg (Bg.s Bg.z)
        refine wl (s_callv isfn61 ef (e1 (et (k20 d7)) (e1 (et (k30 d0)) e0)) (vf_push_w (hg.t le82) m94 g98 hS) ?_)
        rintro _ w5 ⟨μ4,v100,cs101,rfl,le99,hS,m102⟩
        refine pu (dt (q30 p1)) ?_
        refine wnil ?_
        refine (fun h=>bn (xl h)) ?_
        replace hS:=hS.drop (Rm.s (Rm.s Rm.z))
        replace hS:=hS.bg (Bg.s (Bg.s (Bg.s (Bg.s Bg.z))))
        replace hS:=hS.bg (Bg.s (Bg.s Bg.z))
        replace hS:=hS.bg (Bg.s (Bg.s (Bg.s (Bg.s Bg.z))))
        replace hS:=hS.bg (Bg.s (Bg.s (Bg.s (Bg.s Bg.z))))
        replace hS:=hS.bg (Bg.s (Bg.s (Bg.s (Bg.s Bg.z))))
        exact ⟨_,_,rfl,(aK4 (aO4 (aK2 (aO50 (aO50 (aO50 (aO20 (aO4 aZ)))))))),_,r97.2,r97.1,v100,cs101,rfl,h,(le82.t le99),hS,m102⟩
      · replace h:=iF h79 h
        refine cseq ?_
        refine creg ?_
        refine wl (s_eqi (et d9) ec (dt (q30 p3)) ?_)
        refine wl (s_assign (et (k30 d3)) (dt (q30 p2)) ?_)
        refine wnil ?_
        refine xn ?_
        refine cifd (et (k30 d2)) (fun h103=>?_) (fun h103=>?_)
        · replace h:=iT h103 h
          refine cseq ?_
          refine cseq ?_
          refine creg ?_
          refine wl (s_move (et d0) (dt (q30 p4)) ?_)
          refine wl (s_nilck (et (k30 d4)) (dt (q30 p5)) ?_)
          refine wl (s_fa fa94_1 (et (k30 d5)) rfl (dt (q30 p6)) ?_)
          refine wl (s_load ti70 (et (k30 d6)) ((hS.blk d1).cell d1) (dt (q30 p7)) ?_)
          refine wl (s_nilck (et (k30 d7)) (dt (q30 p8)) ?_)
          refine wl (s_fa fa41_0 (et (k30 d8)) rfl (dt (q30 p9)) ?_)
          refine wl (s_load ti3 (et (k30 d9)) ((m17 _ hS.a).one d0) (dt (q40 p0)) ?_)
          refine wl (s_nei (et (k40 d0)) ec (dt (q40 p1)) ?_)
          refine wnil ?_
          refine xn ?_
          refine ccutE (rg 42 2) (by decide) (fun m w=>∃ (μx:M) (i104:Int),m=(yK20 (yK20 (yK2 (yO2 42 []))))∧vf_special_j2 fu u_8 at_18 todo_24 stac_28 has_32 i104=some r∧Le μ0 μx∧Sq μx w0 w (.blk b1 94 [.pointer (some ⟨b3,o4,none⟩),.pointer (some ⟨b9,o10,none⟩),.map (some b19),v25,v29,v33,.int .i64 i104]::.map b19 es20 c21::.row v25 3 1 todo_24.length cs26::.row v29 3 1 stac_28.length cs30::.row v33 4 1 has_32.length cs34::(bitsRes 4 bs22++rsF))) (by rintro _ _ ⟨_,_,rfl,_⟩; rfl) ?_ ?_
          · refine cifd (et (k40 d1)) (fun h105=>?_) (fun h105=>?_)
            · replace h:=iT h105 h
              refine creg ?_
              refine wl (s_move (et d0) (dt (q40 p2)) ?_)
              replace h:=bI h; obtain ⟨r106,g107,h⟩:=h
              replace hS:=hS.bg (Bg.s Bg.z)
              refine wl (s_callv isfn57 ef (e1 (et (k40 d2)) (e1 ec e0)) (vf_fail_w hg g107 hS) ?_)
              rintro _ w6 ⟨μ5,rfl,le108,hS⟩
              refine pu (dt (q40 p3)) ?_
              refine wnil ?_
              refine xl ?_
              replace hS:=hS.drop (Rm.s Rm.z)
              exact ⟨_,_,rfl,(aK20 (aK20 (aK2 (aO2 aZ)))),_,r106,rfl,h,le108,hS⟩
            · replace h:=iF h105 h
              refine cskip ?_
              refine xl ?_
              replace hS:=hS.drop Rm.z
              exact ⟨_,_,rfl,(aK20 (aK20 (aK2 (aO2 aZ)))),_,err_36,rfl,h,Le.r,hS⟩
          · rintro _ t w7 ⟨μ6,i104,rfl,h,le109,hS⟩
            unfold vf_special_j2 at h
            refine nrm (mK20 (mK20 (mK2 (mO2 mz)))) ?_
            refine xn ?_
            refine cseq ?_
            refine creg ?_
            refine wl (s_move (et d0) (dt (q40 p4)) ?_)
            refine wl (s_move (et d0) (dt (q40 p5)) ?_)
            refine wl (s_nilck (et (k40 d5)) (dt (q40 p6)) ?_)
            refine wl (s_fa fa94_1 (et (k40 d6)) rfl (dt (q40 p7)) ?_)
            refine wl (s_load ti70 (et (k40 d7)) ((hS.blk d0).cell d1) (dt (q40 p8)) ?_)
            refine wl (s_nilck (et (k40 d8)) (dt (q40 p9)) ?_)
            refine wl (s_fa fa41_3 (et (k40 d9)) rfl (dt (q50 p0)) ?_)
            refine wl (s_load ti3 (et (k50 d0)) ((m17 _ (le109 _ hS.a)).one d3) (dt (q50 p1)) ?_)
            refine wl (s_bsl Tryz.underlying38 ti3 (Parts.s (et (k50 d1)) rfl Parts.z) rfl rfl hS ?_); clear hS; intro b110 w8 hb111 hS; refine pu (dt (q50 p2)) ?_
            obtain ⟨μ7,le113,m112,hS⟩:=Sep.frzBlk (l:=([u_8.Result]:List Int)) hS (Rw.one (α:=Int) rfl) (Nat.le_of_ble_eq_true rfl)
            replace h:=bI h; obtain ⟨r114,g115,h⟩:=h
            replace hS:=hS.bg (Bg.s (Bg.s (Bg.s Bg.z)))
            replace hS:=hS.bg (Bg.s Bg.z)
            refine wl (s_callv isfn62 ef (e1 (et (k40 d4)) (e1 (et (k50 d2)) e0)) (vf_want_w (hg.t (le109.t le113)) (m31.up (le109.t le113)) m112 g115 hS) ?_)
            rintro _ w9 ⟨μ8,v117,cs118,rfl,le116,hS,m119⟩
            refine pu (dt (q50 p3)) ?_
            refine wnil ?_
            refine xn ?_
            refine cseq ?_
            refine creg ?_
            refine wl (s_move (et d0) (dt (q50 p4)) ?_)
            replace h:=bI h; obtain ⟨r120,g121,h⟩:=h
            replace hS:=hS.bg (Bg.s Bg.z)
            replace hS:=hS.bg (Bg.s Bg.z)
            refine wl (s_callv isfn83 ef (e1 (et (k50 d4)) e0) (vf_done_w (hg.t (le109.t (le113.t le116))) m119 g121 hS) ?_)
            rintro _ w10 ⟨μ9,v123,cs124,rfl,le122,hS,m125⟩
            refine pu (dt (q50 p5)) ?_
            refine wl (s_assign (et (k50 d5)) (dt p4) ?_)
            refine wnil ?_
            refine xn ?_
            refine cret ?_
            refine (fun h=>br (xr (xr h))) ?_
            obtain rfl:=oI h
            refine ret1 rfl d4 ?_
            replace hS:=hS.bg (Bg.s (Bg.s (Bg.s (Bg.s Bg.z))))
            replace hS:=hS.bg (Bg.s (Bg.s Bg.z))
            replace hS:=hS.bg (Bg.s (Bg.s (Bg.s (Bg.s Bg.z))))
            replace hS:=hS.bg (Bg.s (Bg.s (Bg.s (Bg.s Bg.z))))
            replace hS:=hS.bg (Bg.s (Bg.s (Bg.s (Bg.s Bg.z))))
            replace hS:Sq μ9 w0 _ (.blk b1 94 [.pointer (some ⟨b3,o4,none⟩),.pointer (some ⟨b9,o10,none⟩),.map (some b19),v25,v123,v33,.int .i64 r120.2.2]::.map b19 es20 c21::.row v25 3 1 todo_24.length cs26::.row v123 3 1 r120.2.1.length cs124::.row v33 4 1 has_32.length cs34::(bitsRes 4 bs22++rsF)):=hS
            exact ⟨_,es20,c21,bs22,v25,cs26,v123,cs124,v33,cs34,rfl,(le109.t (le113.t (le116.t le122))),hS,(m23.up (le109.t (le113.t (le116.t le122)))),(m27.up (le109.t (le113.t (le116.t le122)))),m125,(m35.up (le109.t (le113.t (le116.t le122))))⟩
        · replace h:=iF h103 h
          refine cseq ?_
          refine creg ?_
          refine wl (s_eqi (et d9) ec (dt (q50 p7)) ?_)
          refine wl (s_assign (et (k50 d7)) (dt (q50 p6)) ?_)
          refine wnil ?_
          refine xn ?_
          refine cifd (et (k50 d6)) (fun h126=>?_) (fun h126=>?_)
          · replace h:=iT h126 h
            refine cseq ?_
            refine cseq ?_
            refine creg ?_
            refine wl (s_move (et d0) (dt (q50 p8)) ?_)
            refine wl (s_nilck (et (k50 d8)) (dt (q50 p9)) ?_)
            refine wl (s_fa fa94_1 (et (k50 d9)) rfl (dt (q60 p0)) ?_)
            refine wl (s_load ti70 (et (k60 d0)) ((hS.blk d1).cell d1) (dt (q60 p1)) ?_)
            refine wl (s_nilck (et (k60 d1)) (dt (q60 p2)) ?_)
            refine wl (s_fa fa41_0 (et (k60 d2)) rfl (dt (q60 p3)) ?_)
            refine wl (s_load ti3 (et (k60 d3)) ((m17 _ hS.a).one d0) (dt (q60 p4)) ?_)
            refine wl (s_eqi (et (k60 d4)) ec (dt (q60 p5)) ?_)
            refine wnil ?_
            refine xn ?_
            refine ccutE (rg 66 2) (by decide) (fun m w=>∃ (μx:M) (i127:Int),m=(yK50 (yK10 (yK6 (yO2 66 []))))∧vf_special_j3 at_18 todo_24 stac_28 has_32 i127=some r∧Le μ0 μx∧Sq μx w0 w (.blk b1 94 [.pointer (some ⟨b3,o4,none⟩),.pointer (some ⟨b9,o10,none⟩),.map (some b19),v25,v29,v33,.int .i64 i127]::.map b19 es20 c21::.row v25 3 1 todo_24.length cs26::.row v29 3 1 stac_28.length cs30::.row v33 4 1 has_32.length cs34::(bitsRes 4 bs22++rsF))) (by rintro _ _ ⟨_,_,rfl,_⟩; rfl) ?_ ?_
            · refine cifd (et (k60 d5)) (fun h128=>?_) (fun h128=>?_)
              · replace h:=iT h128 h
                refine creg ?_
                refine wl (s_move (et d0) (dt (q60 p6)) ?_)
                replace h:=bI h; obtain ⟨r129,g130,h⟩:=h
                replace hS:=hS.bg (Bg.s Bg.z)
                refine wl (s_callv isfn57 ef (e1 (et (k60 d6)) (e1 ec e0)) (vf_fail_w hg g130 hS) ?_)
                rintro _ w11 ⟨μ10,rfl,le131,hS⟩
                refine pu (dt (q60 p7)) ?_
                refine wnil ?_
                refine xl ?_
                replace hS:=hS.drop (Rm.s Rm.z)
                exact ⟨_,_,rfl,(aK50 (aK10 (aK6 (aO2 aZ)))),_,r129,rfl,h,le131,hS⟩
              · replace h:=iF h128 h
                refine cskip ?_
                refine xl ?_
                replace hS:=hS.drop Rm.z
                exact ⟨_,_,rfl,(aK50 (aK10 (aK6 (aO2 aZ)))),_,err_36,rfl,h,Le.r,hS⟩
            · rintro _ t w12 ⟨μ11,i127,rfl,h,le132,hS⟩
              unfold vf_special_j3 at h
              refine nrm (mK50 (mK10 (mK6 (mO2 mz)))) ?_
              refine xn ?_
              refine cseq ?_
              refine creg ?_
              refine wl (s_move (et d0) (dt (q60 p8)) ?_)
              replace h:=bI h; obtain ⟨r133,g134,h⟩:=h
              replace hS:=hS.bg (Bg.s (Bg.s (Bg.s Bg.z)))
              replace hS:=hS.bg (Bg.s Bg.z)
              refine wl (s_callv isfn83 ef (e1 (et (k60 d8)) e0) (vf_done_w (hg.t le132) (m31.up le132) g134 hS) ?_)
              rintro _ w13 ⟨μ12,v136,cs137,rfl,le135,hS,m138⟩
              refine pu (dt (q60 p9)) ?_
              refine wl (s_assign (et (k60 d9)) (dt p4) ?_)
              refine wnil ?_
              refine xn ?_
              refine cret ?_
              refine (fun h=>br (xr (xr h))) ?_
              obtain rfl:=oI h
              refine ret1 rfl d4 ?_
              replace hS:=hS.bg (Bg.s (Bg.s (Bg.s (Bg.s Bg.z))))
              replace hS:=hS.bg (Bg.s (Bg.s Bg.z))
              replace hS:=hS.bg (Bg.s (Bg.s (Bg.s (Bg.s Bg.z))))
              replace hS:=hS.bg (Bg.s (Bg.s (Bg.s (Bg.s Bg.z))))
              replace hS:=hS.bg (Bg.s (Bg.s (Bg.s (Bg.s Bg.z))))
              replace hS:Sq μ12 w0 _ (.blk b1 94 [.pointer (some ⟨b3,o4,none⟩),.pointer (some ⟨b9,o10,none⟩),.map (some b19),v25,v136,v33,.int .i64 r133.2.2]::.map b19 es20 c21::.row v25 3 1 todo_24.length cs26::.row v136 3 1 r133.2.1.length cs137::.row v33 4 1 has_32.length cs34::(bitsRes 4 bs22++rsF)):=hS
              exact ⟨_,es20,c21,bs22,v25,cs26,v136,cs137,v33,cs34,rfl,(le132.t le135),hS,(m23.up (le132.t le135)),(m27.up (le132.t le135)),m138,(m35.up (le132.t le135))⟩
          · replace h:=iF h126 h
            refine cseq ?_
            refine creg ?_
            refine wl (s_eqi (et d9) ec (dt (q70 p1)) ?_)
            refine wl (s_assign (et (k70 d1)) (dt (q70 p0)) ?_)
            refine wnil ?_
            refine xn ?_
            refine cifd (et (k70 d0)) (fun h139=>?_) (fun h139=>?_)
            · replace h:=iT h139 h
              refine cdraw (by kernel_rfl) rfl fun w14 hh_ ho_ ht_ hu_=>?_
              replace hS:=hS.drew hh_ ho_ ht_ hu_
              refine sf_start ?_
              refine sf_pu (i:=0) [0,17] (blind_of fun _ _ _ h=>h.2) rfl rfl rfl (u_move (et d0)) (q70 p2) ?_
              refine sf_pu (i:=1) [1,2,3,4,5,6,7,8,9,10,13,14,15,16,17] (blind_of fun _ _ _ h=>h.2) rfl rfl rfl (u_move (et d0)) (q70 p3) ?_
              refine sf_pu (i:=2) [2,3,4,5,6,7,8,9,10,13,14,15,16,17] (blind_of fun _ _ _ h=>h.2) rfl rfl rfl (u_nilck (et (k70 d3))) (q70 p4) ?_
              refine sf_pu (i:=3) [3,4,5,6,7,8,9,10,13,14,15,16,17] (blind_of fun _ _ _ h=>h.2) rfl rfl rfl (u_fa fa94_0 (et (k70 d4)) rfl) (q70 p5) ?_
              refine sf_rd (i:=4) [4,5,6,7,8,9,10,13,14,15,16,17] (blind_of fun _ _ _ h=>h.2) rfl rfl rfl (u_load ti73 (et (k70 d5)) ((hS.blk d1).cell d0)) (q70 p6) ?_
              refine sf_pu (i:=5) [5,6,7,8,9,10,13,14,15,16,17] (blind_of fun _ _ _ h=>h.2) rfl rfl rfl (u_nilck (et (k70 d6))) (q70 p7) ?_
              refine sf_pu (i:=6) [6,7,8,9,10,13,14,15,16,17] (blind_of fun _ _ _ h=>h.2) rfl rfl rfl (u_fa fa75_0 (et (k70 d7)) rfl) (q70 p8) ?_
              refine sf_rd (i:=7) [7,8,9,10,13,14,15,16,17] (blind_of fun _ _ _ h=>h.2) rfl rfl rfl (u_load ti72 (et (k70 d8)) ((m7 _ hS.a).one d0)) (q70 p9) ?_
              replace h:=bI h; obtain ⟨x140,g141,h⟩:=h
              obtain ⟨b142,o143,cs144,rfl,f145,m146⟩:=Np.get m6 g141
              obtain ⟨a147,c148,a150,c151,rfl,m149,m152⟩:=m146
              refine sf_pu (i:=8) [8,9,10,13,14,15,16,17] (blind_of fun _ _ _ h=>h.2) rfl rfl rfl (u_nilck (et (k70 d9))) (q80 p0) ?_
              refine sf_pu (i:=9) [9,10,13,14,15,16,17] (blind_of fun _ _ _ h=>h.2) rfl rfl rfl (u_fa fa25_0 (et (k80 d0)) rfl) (q80 p1) ?_
              refine sf_rd (i:=10) [10,13,14,15,16,17] (blind_of fun _ _ _ h=>h.2) rfl rfl rfl (u_load ti22 (et (k80 d1)) ((f145 _ hS.a).one d0)) (q80 p2) ?_
              refine sf_pu (i:=11) [11,12,13,14,15,16,17] (blind_of fun _ _ _ h=>h.2) rfl rfl rfl (u_fa fa43_1 (et d3) rfl) (q80 p3) ?_
              refine sf_rd (i:=12) [12,13,14,15,16,17] (blind_of fun _ _ _ h=>h.2) rfl rfl rfl (u_load ti3 (et (k80 d3)) ((hS.blk d0).cell d1)) (q80 p4) ?_
              replace h:=bI h; obtain ⟨x153,g154,h⟩:=h
              obtain ⟨b155,o156,cs157,e158,f159,m160⟩:=SlR.elem m149 g154
              obtain rfl:=m160
              refine sf_pu (i:=13) [13,14,15,16,17] (blind_of fun _ _ _ h=>h.2) rfl rfl rfl (u_iax Tryz.underlying22 ti56 (et (k80 d2)) (et (k80 d4)) e158) (q80 p5) ?_
              refine sf_pu (i:=14) [14,15,16,17] (blind_of fun _ _ _ h=>h.2) rfl rfl rfl (u_fa fa56_0 (et (k80 d5)) rfl) (q80 p6) ?_
              refine sf_rd (i:=15) [15,16,17] (blind_of fun _ _ _ h=>h.2) rfl rfl rfl (u_load ti3 (et (k80 d6)) ((f159 _ hS.a).one d0)) (q80 p7) ?_
              refine sf1 rfl rfl rfl rfl (wn0 rfl) (s_bsl Tryz.underlying38 ti3 (Parts.s (et (k80 d7)) rfl Parts.z) rfl rfl hS ?_); clear hS; intro b161 w15 hb162 hS; refine pu (dt (q80 p8)) ?_
              refine ⟨Mons.z,?_⟩
              obtain ⟨μ13,le164,m163,hS⟩:=Sep.frzBlk (l:=([x153.Typ]:List Int)) hS (Rw.one (α:=Int) rfl) (Nat.le_of_ble_eq_true rfl)
              replace h:=bI h; obtain ⟨r165,g166,h⟩:=h
              replace hS:=hS.bg (Bg.s (Bg.s (Bg.s (Bg.s Bg.z))))
              replace hS:=hS.bg (Bg.s (Bg.s Bg.z))
              refine sf1 rfl rfl rfl rfl (wn0 rfl) (s_callv isfn62 ef (e1 (et (k70 d2)) (e1 (et (k80 d8)) e0)) (vf_want_w (hg.t le164) (m31.up le164) m163 g166 hS) ?_)
              rintro _ w16 ⟨μ14,v168,cs169,rfl,le167,hS,m170⟩
              refine pu (dt (q80 p9)) ?_
              refine ⟨Mons.z,?_⟩
              refine sf_nil ?_
              refine (fun h=>bn (xl h)) ?_
              replace hS:=hS.drop (Rm.s (Rm.s Rm.z))
              replace hS:=hS.bg (Bg.s (Bg.s (Bg.s (Bg.s Bg.z))))
              replace hS:=hS.bg (Bg.s (Bg.s Bg.z))
              replace hS:=hS.bg (Bg.s (Bg.s (Bg.s (Bg.s Bg.z))))
              replace hS:=hS.bg (Bg.s (Bg.s (Bg.s (Bg.s Bg.z))))
              replace hS:=hS.bg (Bg.s (Bg.s (Bg.s (Bg.s Bg.z))))
              exact ⟨_,_,rfl,(aK4 (aO4 (aK2 (aO50 (aO50 (aO50 (aO20 (aO4 aZ)))))))),_,r165.2,r165.1,v168,cs169,rfl,h,(le164.t le167),hS,m170⟩
            · replace h:=iF h139 h
              refine cseq ?_
              refine creg ?_
              refine wl (s_eqi (et d9) ec (dt (q90 p1)) ?_)
              refine wl (s_assign (et (k90 d1)) (dt (q90 p0)) ?_)
              refine wnil ?_
              refine xn ?_
              refine cifd (et (k90 d0)) (fun h171=>?_) (fun h171=>?_)
              · replace h:=iT h171 h
                refine cdraw (by kernel_rfl) rfl fun w17 hh_ ho_ ht_ hu_=>?_
                replace hS:=hS.drew hh_ ho_ ht_ hu_
                refine sf_start ?_
                refine sf_pu (i:=0) [0,16] (blind_of fun _ _ _ h=>h.2) rfl rfl rfl (u_move (et d0)) (q90 p2) ?_
                refine sf_pu (i:=1) [1,2,3,4,5,6,7,8,9,10,13,14,15,16] (blind_of fun _ _ _ h=>h.2) rfl rfl rfl (u_move (et d0)) (q90 p3) ?_
                refine sf_pu (i:=2) [2,3,4,5,6,7,8,9,10,13,14,15,16] (blind_of fun _ _ _ h=>h.2) rfl rfl rfl (u_nilck (et (k90 d3))) (q90 p4) ?_
                refine sf_pu (i:=3) [3,4,5,6,7,8,9,10,13,14,15,16] (blind_of fun _ _ _ h=>h.2) rfl rfl rfl (u_fa fa94_0 (et (k90 d4)) rfl) (q90 p5) ?_
                refine sf_rd (i:=4) [4,5,6,7,8,9,10,13,14,15,16] (blind_of fun _ _ _ h=>h.2) rfl rfl rfl (u_load ti73 (et (k90 d5)) ((hS.blk d1).cell d0)) (q90 p6) ?_
                refine sf_pu (i:=5) [5,6,7,8,9,10,13,14,15,16] (blind_of fun _ _ _ h=>h.2) rfl rfl rfl (u_nilck (et (k90 d6))) (q90 p7) ?_
                refine sf_pu (i:=6) [6,7,8,9,10,13,14,15,16] (blind_of fun _ _ _ h=>h.2) rfl rfl rfl (u_fa fa75_0 (et (k90 d7)) rfl) (q90 p8) ?_
                refine sf_rd (i:=7) [7,8,9,10,13,14,15,16] (blind_of fun _ _ _ h=>h.2) rfl rfl rfl (u_load ti72 (et (k90 d8)) ((m7 _ hS.a).one d0)) (q90 p9) ?_
                replace h:=bI h; obtain ⟨x172,g173,h⟩:=h
                obtain ⟨b174,o175,cs176,rfl,f177,m178⟩:=Np.get m6 g173
                obtain ⟨a179,c180,a182,c183,rfl,m181,m184⟩:=m178
                refine sf_pu (i:=8) [8,9,10,13,14,15,16] (blind_of fun _ _ _ h=>h.2) rfl rfl rfl (u_nilck (et (k90 d9))) (q100 p0) ?_
                refine sf_pu (i:=9) [9,10,13,14,15,16] (blind_of fun _ _ _ h=>h.2) rfl rfl rfl (u_fa fa25_0 (et (k100 d0)) rfl) (q100 p1) ?_
                refine sf_rd (i:=10) [10,13,14,15,16] (blind_of fun _ _ _ h=>h.2) rfl rfl rfl (u_load ti22 (et (k100 d1)) ((f177 _ hS.a).one d0)) (q100 p2) ?_
                refine sf_pu (i:=11) [11,12,13,14,15,16] (blind_of fun _ _ _ h=>h.2) rfl rfl rfl (u_fa fa43_1 (et d3) rfl) (q100 p3) ?_
                refine sf_rd (i:=12) [12,13,14,15,16] (blind_of fun _ _ _ h=>h.2) rfl rfl rfl (u_load ti3 (et (k100 d3)) ((hS.blk d0).cell d1)) (q100 p4) ?_
                replace h:=bI h; obtain ⟨x185,g186,h⟩:=h
                obtain ⟨b187,o188,cs189,e190,f191,m192⟩:=SlR.elem m181 g186
                obtain rfl:=m192
                refine sf_pu (i:=13) [13,14,15,16] (blind_of fun _ _ _ h=>h.2) rfl rfl rfl (u_iax Tryz.underlying22 ti56 (et (k100 d2)) (et (k100 d4)) e190) (q100 p5) ?_
                refine sf_pu (i:=14) [14,15,16] (blind_of fun _ _ _ h=>h.2) rfl rfl rfl (u_fa fa56_0 (et (k100 d5)) rfl) (q100 p6) ?_
                refine sf_rd (i:=15) [15,16] (blind_of fun _ _ _ h=>h.2) rfl rfl rfl (u_load ti3 (et (k100 d6)) ((f191 _ hS.a).one d0)) (q100 p7) ?_
                replace h:=bI h; obtain ⟨r193,g194,h⟩:=h
                replace hS:=hS.bg (Bg.s (Bg.s (Bg.s (Bg.s Bg.z))))
                replace hS:=hS.bg (Bg.s (Bg.s Bg.z))
                refine sf1 rfl rfl rfl rfl (wn0 rfl) (s_callv isfn61 ef (e1 (et (k90 d2)) (e1 (et (k100 d7)) e0)) (vf_push_w hg m31 g194 hS) ?_)
                rintro _ w18 ⟨μ15,v196,cs197,rfl,le195,hS,m198⟩
                refine pu (dt (q100 p8)) ?_
                refine ⟨Mons.z,?_⟩
                refine sf_nil ?_
                refine (fun h=>bn (xl h)) ?_
                replace hS:=hS.drop (Rm.s (Rm.s Rm.z))
                replace hS:=hS.bg (Bg.s (Bg.s (Bg.s (Bg.s Bg.z))))
                replace hS:=hS.bg (Bg.s (Bg.s Bg.z))
                replace hS:=hS.bg (Bg.s (Bg.s (Bg.s (Bg.s Bg.z))))
                replace hS:=hS.bg (Bg.s (Bg.s (Bg.s (Bg.s Bg.z))))
                replace hS:=hS.bg (Bg.s (Bg.s (Bg.s (Bg.s Bg.z))))
                exact ⟨_,_,rfl,(aK4 (aO4 (aK2 (aO50 (aO50 (aO50 (aO20 (aO4 aZ)))))))),_,r193.2,r193.1,v196,cs197,rfl,h,le195,hS,m198⟩
              · replace h:=iF h171 h
                refine cseq ?_
                refine creg ?_
                refine wl (s_eqi (et d9) ec (dt (q100 (q10 p0))) ?_)
                refine wl (s_assign (et (k100 (k10 d0))) (dt (q100 p9)) ?_)
                refine wnil ?_
                refine xn ?_
                refine cifd (et (k100 d9)) (fun h199=>?_) (fun h199=>?_)
                · replace h:=iT h199 h
                  refine cseq ?_
                  refine creg ?_
                  refine wl (s_move (et d0) (dt (q100 (q10 p1))) ?_)
                  replace h:=bI h; obtain ⟨r200,g201,h⟩:=h
                  replace hS:=hS.bg (Bg.s (Bg.s (Bg.s (Bg.s Bg.z))))
                  replace hS:=hS.bg (Bg.s (Bg.s Bg.z))
                  refine wl (s_callv isfn63 ef (e1 (et (k100 (k10 d1))) e0) (vf_pop_w hg m31 g201 hS) ?_)
                  rintro _ w19 ⟨μ16,v203,cs204,rfl,le202,hS,m205⟩
                  refine pu (dt (q100 (q10 p2))) ?_
                  refine wl (s_assign (et (k100 (k10 d2))) (dt p5) ?_)
                  refine wnil ?_
                  refine xn ?_
                  refine cseq ?_
                  refine ccutE (rg 113 9) (by decide) (fun m w=>∃ (μx:M) (b206:Bool),m=(yK50 (yK50 (yK10 (yK3 (yO9 113 (.i (.bool b206)::[]))))))∧vf_special_j4 at_18 todo_24 has_32 r200 b206=some r∧Le μ16 μx∧Sq μx w0 w (.blk b1 94 [.pointer (some ⟨b3,o4,none⟩),.pointer (some ⟨b9,o10,none⟩),.map (some b19),v25,v203,v33,.int .i64 r200.2.2]::.map b19 es20 c21::.row v25 3 1 todo_24.length cs26::.row v203 3 1 r200.2.1.length cs204::.row v33 4 1 has_32.length cs34::(bitsRes 4 bs22++rsF))) (by rintro _ _ ⟨_,_,rfl,_⟩; rfl) ?_ ?_
                  · refine creg ?_
                    refine wl (s_move (et d0) (dt (q100 (q10 p3))) ?_)
                    refine wl (s_nilck (et (k100 (k10 d3))) (dt (q100 (q10 p4))) ?_)
                    refine wl (s_fa fa94_5 (et (k100 (k10 d4))) rfl (dt (q100 (q10 p5))) ?_)
                    refine wl (s_load ti27 (et (k100 (k10 d5))) ((hS.blk d0).cell d6) (dt (q100 (q10 p6))) ?_)
                    refine wl (s_eqi (et (k100 (k10 d6))) ec (dt (q100 (q10 p7))) ?_)
                    refine wl (s_move (et (k100 (k10 d7))) (dt (q100 (q10 p8))) ?_)
                    refine wspd (k100 (k10 d8)) (q100 (q10 p8)) (q100 (q10 p8)) (fun h207=>?_) (fun h207=>?_)
                    · replace h:=iT h207 h
                      refine wy rfl (k100 (k10 d8)) (s_move (et d5) (dt (q100 (q10 p9))) ?_)
                      replace h:=bI h; obtain ⟨r208,g209,h⟩:=h
                      refine wy rfl (k100 (k10 d8)) (s_callv isfn34 ef (e1 (et (k100 (k10 d9))) e0) (vf_plain_w (hg.t le202) g209 hS) ?_)
                      rintro _ w20 ⟨μ17,rfl,le210,hS⟩
                      refine pu (dt (q100 (q20 p0))) ?_
                      refine wy rfl (k100 (k10 d8)) (s_not (et (k100 (k20 d0))) (dt (q100 (q20 p1))) ?_)
                      refine wl (s_pickt (et (k100 (k10 d8))) (et (k100 (k20 d1))) (dt (q100 (q20 p2))) ?_)
                      refine wnil ?_
                      refine xl ?_
                      replace hS:=hS.drop (Rm.s (Rm.s Rm.z))
                      replace hS:=hS.bg (Bg.s (Bg.s (Bg.s (Bg.s Bg.z))))
                      replace hS:=hS.bg (Bg.s (Bg.s Bg.z))
                      replace hS:=hS.bg (Bg.s (Bg.s (Bg.s (Bg.s Bg.z))))
                      replace hS:=hS.bg (Bg.s (Bg.s (Bg.s (Bg.s Bg.z))))
                      replace hS:=hS.bg (Bg.s (Bg.s (Bg.s (Bg.s Bg.z))))
                      exact ⟨_,_,rfl,(aK50 (aK50 (aK10 (aK3 (aO9 (aI aZ)))))),_,(!r208),rfl,h,le210,hS⟩
                    · replace h:=iF h207 h
                      refine wn rfl (k100 (k10 d8)) rfl (dt (q100 (q10 p9))) ?_
                      refine wn rfl (k100 (k10 d8)) rfl (dt (q100 (q20 p0))) ?_
                      refine wn rfl (k100 (k10 d8)) rfl (dt (q100 (q20 p1))) ?_
                      refine wl (s_pickf (et (k100 (k10 d8))) ec (dt (q100 (q20 p2))) ?_)
                      refine wnil ?_
                      refine xl ?_
                      replace hS:=hS.drop (Rm.s (Rm.s Rm.z))
                      replace hS:=hS.bg (Bg.s (Bg.s (Bg.s (Bg.s Bg.z))))
                      replace hS:=hS.bg (Bg.s (Bg.s Bg.z))
                      replace hS:=hS.bg (Bg.s (Bg.s (Bg.s (Bg.s Bg.z))))
                      replace hS:=hS.bg (Bg.s (Bg.s (Bg.s (Bg.s Bg.z))))
                      replace hS:=hS.bg (Bg.s (Bg.s (Bg.s (Bg.s Bg.z))))
                      exact ⟨_,_,rfl,(aK50 (aK50 (aK10 (aK3 (aO9 (aI aZ)))))),_,false,rfl,h,Le.r,hS⟩
                  · rintro _ t w21 ⟨μ18,b206,rfl,h,le211,hS⟩
                    unfold vf_special_j4 at h
                    refine nrm (mK50 (mK50 (mK10 (mK3 (mO9 (mi mz)))))) ?_
                    refine xn ?_
                    refine cifb (et (k100 (k20 d2))) (fun h212=>?_) (fun h212=>?_)
                    · replace h:=iT h212 h
                      refine creg ?_
                      refine wl (s_move (et d0) (dt (q100 (q20 p3))) ?_)
                      replace h:=bI h; obtain ⟨r213,g214,h⟩:=h
                      refine wl (s_callv isfn57 ef (e1 (et (k100 (k20 d3))) (e1 ec e0)) (vf_fail_w (hg.t (le202.t le211)) g214 hS) ?_)
                      rintro _ w22 ⟨μ19,rfl,le215,hS⟩
                      refine pu (dt (q100 (q20 p4))) ?_
                      refine wnil ?_
                      refine (fun h=>bn (xl h)) ?_
                      exact ⟨_,_,rfl,(aK4 (aO4 (aK2 (aO50 (aO50 (aO50 (aO20 (aO4 aZ)))))))),_,r213,r200.2.1,v203,cs204,rfl,h,(le202.t (le211.t le215)),hS,(m205.up (le211.t le215))⟩
                    · replace h:=iF h212 h
                      refine cskip ?_
                      refine (fun h=>bn (xl h)) ?_
                      exact ⟨_,_,rfl,(aK4 (aO4 (aK2 (aO50 (aO50 (aO50 (aO20 (aO4 aZ)))))))),_,r200.2.2,r200.2.1,v203,cs204,rfl,h,(le202.t le211),hS,(m205.up le211)⟩
                · replace h:=iF h199 h
                  refine cseq ?_
                  refine creg ?_
                  refine wl (s_eqi (et d9) ec (dt (q100 (q20 p6))) ?_)
                  refine wl (s_assign (et (k100 (k20 d6))) (dt (q100 (q20 p5))) ?_)
                  refine wnil ?_
                  refine xn ?_
                  refine cifd (et (k100 (k20 d5))) (fun h216=>?_) (fun h216=>?_)
                  · replace h:=iT h216 h
                    refine cseq ?_
                    refine creg ?_
                    refine wl (s_move (et d0) (dt (q100 (q20 p7))) ?_)
                    replace h:=bI h; obtain ⟨r217,g218,h⟩:=h
                    replace hS:=hS.bg (Bg.s (Bg.s (Bg.s (Bg.s Bg.z))))
                    replace hS:=hS.bg (Bg.s (Bg.s Bg.z))
                    refine wl (s_callv isfn63 ef (e1 (et (k100 (k20 d7))) e0) (vf_pop_w hg m31 g218 hS) ?_)
                    rintro _ w23 ⟨μ20,v220,cs221,rfl,le219,hS,m222⟩
                    refine pu (dt (q100 (q20 p8))) ?_
                    refine wl (s_assign (et (k100 (k20 d8))) (dt p6) ?_)
                    refine wnil ?_
                    refine xn ?_
                    refine cseq ?_
                    refine creg ?_
                    refine wl (s_move (et d0) (dt (q100 (q20 p9))) ?_)
                    replace h:=bI h; obtain ⟨r223,g224,h⟩:=h
                    replace hS:=hS.bg (Bg.s Bg.z)
                    replace hS:=hS.bg (Bg.s Bg.z)
                    refine wl (s_callv isfn84 ef (e1 (et (k100 (k20 d9))) e0) (vf_gen_w (hg.t le219) (m6.up le219) (m7.up le219) m222 g224 hS) ?_)
                    rintro rv_ w24 ⟨μ21,v226,v228,cs229,hrv_,le225,hS,m227,m230⟩; obtain rfl:=hrv_.symm
                    refine pu (dt (q100 (q30 p0))) ?_
                    refine wl (s_assign (et (k100 (k30 d0))) (dt p7) ?_)
                    refine wnil ?_
                    refine xn ?_
                    refine cseq ?_
                    refine creg ?_
                    refine wl (s_move (et d7) (dt (q100 (q30 p1))) ?_)
                    by_cases h231:r223.1.isSome=true
                    · replace h:=iT h231 h
                      replace h:=bI h; obtain ⟨x232,g233,h⟩:=h
                      obtain ⟨b234,o235,cs236,rfl,f237,m238⟩:=Np.get m227 g233
                      obtain ⟨a239,c240,a242,c243,rfl,m241,m244⟩:=m238
                      refine wl (s_ptrneq Tryz.underlying70 (et (k100 (k30 d1))) (dt (q100 (q30 p2))) ?_)
                      refine wnil ?_
                      refine xn ?_
                      refine cift (et (k100 (k30 d2))) ?_
                      refine cseq ?_
                      refine cseq ?_
                      refine creg ?_
                      refine wl (s_move (et d6) (dt (q100 (q30 p3))) ?_)
                      refine wl (s_move (et d7) (dt (q100 (q30 p4))) ?_)
                      refine wl (s_nilck (et (k100 (k30 d4))) (dt (q100 (q30 p5))) ?_)
                      refine wl (s_fa fa41_4 (et (k100 (k30 d5))) rfl (dt (q100 (q30 p6))) ?_)
                      refine wl (s_load ti3 (et (k100 (k30 d6))) ((f237 _ hS.a).one d4) (dt (q100 (q30 p7))) ?_)
                      refine wl (s_nei (et (k100 (k30 d3))) (et (k100 (k30 d7))) (dt (q100 (q30 p8))) ?_)
                      refine wnil ?_
                      refine xn ?_
                      refine ccutE (rg 139 2) (by decide) (fun m w=>∃ (μx:M) (i245:Int),m=(yK50 (yK50 (yK20 (yK10 (yK9 (yO2 139 []))))))∧vf_special_j5 at_18 todo_24 has_32 r223 x232 i245=some r∧Le μ21 μx∧Sq μx w0 w (.blk b1 94 [.pointer (some ⟨b3,o4,none⟩),.pointer (some ⟨b9,o10,none⟩),.map (some b19),v25,v228,v33,.int .i64 i245]::.map b19 es20 c21::.row v25 3 1 todo_24.length cs26::.row v228 3 1 r223.2.1.length cs229::.row v33 4 1 has_32.length cs34::(bitsRes 4 bs22++rsF))) (by rintro _ _ ⟨_,_,rfl,_⟩; rfl) ?_ ?_
                      · refine cifd (et (k100 (k30 d8))) (fun h246=>?_) (fun h246=>?_)
                        · replace h:=iT h246 h
                          refine creg ?_
                          refine wl (s_move (et d0) (dt (q100 (q30 p9))) ?_)
                          replace h:=bI h; obtain ⟨r247,g248,h⟩:=h
                          refine wl (s_callv isfn57 ef (e1 (et (k100 (k30 d9))) (e1 ec e0)) (vf_fail_w (hg.t (le219.t le225)) g248 hS) ?_)
                          rintro _ w25 ⟨μ22,rfl,le249,hS⟩
                          refine pu (dt (q100 (q40 p0))) ?_
                          refine wnil ?_
                          refine xl ?_
                          replace hS:=hS.drop (Rm.s (Rm.s Rm.z))
                          replace hS:=hS.bg (Bg.s (Bg.s (Bg.s (Bg.s Bg.z))))
                          replace hS:=hS.bg (Bg.s (Bg.s Bg.z))
                          replace hS:=hS.bg (Bg.s (Bg.s (Bg.s (Bg.s Bg.z))))
                          replace hS:=hS.bg (Bg.s (Bg.s (Bg.s (Bg.s Bg.z))))
                          replace hS:=hS.bg (Bg.s (Bg.s (Bg.s (Bg.s Bg.z))))
                          exact ⟨_,_,rfl,(aK50 (aK50 (aK20 (aK10 (aK9 (aO2 aZ)))))),_,r247,rfl,h,le249,hS⟩
                        · replace h:=iF h246 h
                          refine cskip ?_
                          refine xl ?_
                          replace hS:=hS.drop (Rm.s (Rm.s Rm.z))
                          replace hS:=hS.bg (Bg.s (Bg.s (Bg.s (Bg.s Bg.z))))
                          replace hS:=hS.bg (Bg.s (Bg.s Bg.z))
                          replace hS:=hS.bg (Bg.s (Bg.s (Bg.s (Bg.s Bg.z))))
                          replace hS:=hS.bg (Bg.s (Bg.s (Bg.s (Bg.s Bg.z))))
                          replace hS:=hS.bg (Bg.s (Bg.s (Bg.s (Bg.s Bg.z))))
                          exact ⟨_,_,rfl,(aK50 (aK50 (aK20 (aK10 (aK9 (aO2 aZ)))))),_,r223.2.2,rfl,h,Le.r,hS⟩
                      · rintro _ t w26 ⟨μ23,i245,rfl,h,le250,hS⟩
                        unfold vf_special_j5 at h
                        refine nrm (mK50 (mK50 (mK20 (mK10 (mK9 (mO2 mz)))))) ?_
                        refine xn ?_
                        refine creg ?_
                        refine wl (s_move (et d0) (dt (q100 (q40 p1))) ?_)
                        refine wl (s_move (et d7) (dt (q100 (q40 p2))) ?_)
                        refine wl (s_nilck (et (k100 (k40 d2))) (dt (q100 (q40 p3))) ?_)
                        refine wl (s_fa fa41_3 (et (k100 (k40 d3))) rfl (dt (q100 (q40 p4))) ?_)
                        refine wl (s_load ti3 (et (k100 (k40 d4))) ((f237 _ (le250 _ hS.a)).one d3) (dt (q100 (q40 p5))) ?_)
                        replace h:=bI h; obtain ⟨r251,g252,h⟩:=h
                        replace hS:=hS.bg (Bg.s (Bg.s (Bg.s Bg.z)))
                        replace hS:=hS.bg (Bg.s Bg.z)
                        refine wl (s_callv isfn61 ef (e1 (et (k100 (k40 d1))) (e1 (et (k100 (k40 d5))) e0)) (vf_push_w (hg.t (le219.t (le225.t le250))) (m230.up le250) g252 hS) ?_)
                        rintro _ w27 ⟨μ24,v254,cs255,rfl,le253,hS,m256⟩
                        refine pu (dt (q100 (q40 p6))) ?_
                        refine wnil ?_
                        refine (fun h=>bn (xl h)) ?_
                        replace hS:=hS.bg (Bg.s (Bg.s (Bg.s (Bg.s Bg.z))))
                        replace hS:=hS.bg (Bg.s (Bg.s Bg.z))
                        replace hS:=hS.bg (Bg.s (Bg.s (Bg.s (Bg.s Bg.z))))
                        replace hS:=hS.bg (Bg.s (Bg.s (Bg.s (Bg.s Bg.z))))
                        replace hS:=hS.bg (Bg.s (Bg.s (Bg.s (Bg.s Bg.z))))
                        exact ⟨_,_,rfl,(aK4 (aO4 (aK2 (aO50 (aO50 (aO50 (aO20 (aO4 aZ)))))))),_,r251.2,r251.1,v254,cs255,rfl,h,(le219.t (le225.t (le250.t le253))),hS,m256⟩
                    · replace h:=iF h231 h
                      obtain rfl:v226=.pointer none:=np_none m227 h231
                      refine wl (s_nilpneq Tryz.underlying70 (et (k100 (k30 d1))) (dt (q100 (q30 p2))) ?_)
                      refine wnil ?_
                      refine xn ?_
                      refine ciff (et (k100 (k30 d2))) ?_
                      refine cskip ?_
                      refine (fun h=>bn (xl h)) ?_
                      replace hS:=hS.drop (Rm.s (Rm.s Rm.z))
                      replace hS:=hS.bg (Bg.s (Bg.s (Bg.s (Bg.s Bg.z))))
                      replace hS:=hS.bg (Bg.s (Bg.s Bg.z))
                      replace hS:=hS.bg (Bg.s (Bg.s (Bg.s (Bg.s Bg.z))))
                      replace hS:=hS.bg (Bg.s (Bg.s (Bg.s (Bg.s Bg.z))))
                      replace hS:=hS.bg (Bg.s (Bg.s (Bg.s (Bg.s Bg.z))))
                      exact ⟨_,_,rfl,(aK4 (aO4 (aK2 (aO50 (aO50 (aO50 (aO20 (aO4 aZ)))))))),_,r223.2.2,r223.2.1,v228,cs229,rfl,h,(le219.t le225),hS,m230⟩
                  · replace h:=iF h216 h
                    refine cseq ?_
                    refine creg ?_
                    refine wl (s_eqi (et d9) ec (dt (q100 (q40 p8))) ?_)
                    refine wl (s_assign (et (k100 (k40 d8))) (dt (q100 (q40 p7))) ?_)
                    refine wnil ?_
                    refine xn ?_
                    refine cifd (et (k100 (k40 d7))) (fun h257=>?_) (fun h257=>?_)
                    · replace h:=iT h257 h
                      refine cseq ?_
                      refine cseq ?_
                      refine creg ?_
                      refine wl (s_move (et d0) (dt (q100 (q40 p9))) ?_)
                      refine wl (s_nilck (et (k100 (k40 d9))) (dt (q100 (q50 p0))) ?_)
                      refine wl (s_fa fa94_1 (et (k100 (k50 d0))) rfl (dt (q100 (q50 p1))) ?_)
                      refine wl (s_load ti70 (et (k100 (k50 d1))) ((hS.blk d1).cell d1) (dt (q100 (q50 p2))) ?_)
                      refine wl (s_nilck (et (k100 (k50 d2))) (dt (q100 (q50 p3))) ?_)
                      refine wl (s_fa fa41_0 (et (k100 (k50 d3))) rfl (dt (q100 (q50 p4))) ?_)
                      refine wl (s_load ti3 (et (k100 (k50 d4))) ((m17 _ hS.a).one d0) (dt (q100 (q50 p5))) ?_)
                      refine wl (s_nei (et (k100 (k50 d5))) ec (dt (q100 (q50 p6))) ?_)
                      refine wnil ?_
                      refine xn ?_
                      refine ccutE (rg 157 2) (by decide) (fun m w=>∃ (μx:M) (i258:Int),m=(yK50 (yK50 (yK50 (yK7 (yO2 157 [])))))∧vf_special_j6 fu u_8 at_18 todo_24 stac_28 has_32 i258=some r∧Le μ0 μx∧Sq μx w0 w (.blk b1 94 [.pointer (some ⟨b3,o4,none⟩),.pointer (some ⟨b9,o10,none⟩),.map (some b19),v25,v29,v33,.int .i64 i258]::.map b19 es20 c21::.row v25 3 1 todo_24.length cs26::.row v29 3 1 stac_28.length cs30::.row v33 4 1 has_32.length cs34::(bitsRes 4 bs22++rsF))) (by rintro _ _ ⟨_,_,rfl,_⟩; rfl) ?_ ?_
                      · refine cifd (et (k100 (k50 d6))) (fun h259=>?_) (fun h259=>?_)
                        · replace h:=iT h259 h
                          refine creg ?_
                          refine wl (s_move (et d0) (dt (q100 (q50 p7))) ?_)
                          replace h:=bI h; obtain ⟨r260,g261,h⟩:=h
                          replace hS:=hS.bg (Bg.s Bg.z)
                          refine wl (s_callv isfn57 ef (e1 (et (k100 (k50 d7))) (e1 ec e0)) (vf_fail_w hg g261 hS) ?_)
                          rintro _ w28 ⟨μ25,rfl,le262,hS⟩
                          refine pu (dt (q100 (q50 p8))) ?_
                          refine wnil ?_
                          refine xl ?_
                          replace hS:=hS.drop (Rm.s Rm.z)
                          exact ⟨_,_,rfl,(aK50 (aK50 (aK50 (aK7 (aO2 aZ))))),_,r260,rfl,h,le262,hS⟩
                        · replace h:=iF h259 h
                          refine cskip ?_
                          refine xl ?_
                          replace hS:=hS.drop Rm.z
                          exact ⟨_,_,rfl,(aK50 (aK50 (aK50 (aK7 (aO2 aZ))))),_,err_36,rfl,h,Le.r,hS⟩
                      · rintro _ t w29 ⟨μ26,i258,rfl,h,le263,hS⟩
                        unfold vf_special_j6 at h
                        refine nrm (mK50 (mK50 (mK50 (mK7 (mO2 mz))))) ?_
                        refine xn ?_
                        refine cseq ?_
                        refine creg ?_
                        refine wl (s_move (et d0) (dt (q100 (q50 p9))) ?_)
                        refine wl (s_move (et d0) (dt (q100 (q60 p0))) ?_)
                        refine wl (s_nilck (et (k100 (k60 d0))) (dt (q100 (q60 p1))) ?_)
                        refine wl (s_fa fa94_1 (et (k100 (k60 d1))) rfl (dt (q100 (q60 p2))) ?_)
                        refine wl (s_load ti70 (et (k100 (k60 d2))) ((hS.blk d0).cell d1) (dt (q100 (q60 p3))) ?_)
                        refine wl (s_nilck (et (k100 (k60 d3))) (dt (q100 (q60 p4))) ?_)
                        refine wl (s_fa fa41_3 (et (k100 (k60 d4))) rfl (dt (q100 (q60 p5))) ?_)
                        refine wl (s_load ti3 (et (k100 (k60 d5))) ((m17 _ (le263 _ hS.a)).one d3) (dt (q100 (q60 p6))) ?_)
                        refine wl (s_bsl Tryz.underlying38 ti3 (Parts.s (et (k100 (k60 d6))) rfl Parts.z) rfl rfl hS ?_); clear hS; intro b264 w30 hb265 hS; refine pu (dt (q100 (q60 p7))) ?_
                        obtain ⟨μ27,le267,m266,hS⟩:=Sep.frzBlk (l:=([u_8.Result]:List Int)) hS (Rw.one (α:=Int) rfl) (Nat.le_of_ble_eq_true rfl)
                        replace h:=bI h; obtain ⟨r268,g269,h⟩:=h
                        replace hS:=hS.bg (Bg.s (Bg.s (Bg.s Bg.z)))
                        replace hS:=hS.bg (Bg.s Bg.z)
                        refine wl (s_callv isfn62 ef (e1 (et (k100 (k50 d9))) (e1 (et (k100 (k60 d7))) e0)) (vf_want_w (hg.t (le263.t le267)) (m31.up (le263.t le267)) m266 g269 hS) ?_)
                        rintro _ w31 ⟨μ28,v271,cs272,rfl,le270,hS,m273⟩
                        refine pu (dt (q100 (q60 p8))) ?_
                        refine wnil ?_
                        refine xn ?_
                        refine creg ?_
                        refine wl (s_move (et d0) (dt (q100 (q60 p9))) ?_)
                        refine wl (s_move (et d0) (dt (q100 (q70 p0))) ?_)
                        refine wl (s_nilck (et (k100 (k70 d0))) (dt (q100 (q70 p1))) ?_)
                        refine wl (s_fa fa94_1 (et (k100 (k70 d1))) rfl (dt (q100 (q70 p2))) ?_)
                        refine wl (s_load ti70 (et (k100 (k70 d2))) ((hS.blk d0).cell d1) (dt (q100 (q70 p3))) ?_)
                        refine wl (s_nilck (et (k100 (k70 d3))) (dt (q100 (q70 p4))) ?_)
                        refine wl (s_fa fa41_4 (et (k100 (k70 d4))) rfl (dt (q100 (q70 p5))) ?_)
                        refine wl (s_load ti3 (et (k100 (k70 d5))) ((m17 _ ((le263.t (le267.t le270)) _ hS.a)).one d4) (dt (q100 (q70 p6))) ?_)
                        replace h:=bI h; obtain ⟨r274,g275,h⟩:=h
                        replace hS:=hS.bg (Bg.s Bg.z)
                        replace hS:=hS.bg (Bg.s Bg.z)
                        refine wl (s_callv isfn61 ef (e1 (et (k100 (k60 d9))) (e1 (et (k100 (k70 d6))) e0)) (vf_push_w (hg.t (le263.t (le267.t le270))) m273 g275 hS) ?_)
                        rintro _ w32 ⟨μ29,v277,cs278,rfl,le276,hS,m279⟩
                        refine pu (dt (q100 (q70 p7))) ?_
                        refine wnil ?_
                        refine (fun h=>bn (xl h)) ?_
                        replace hS:=hS.bg (Bg.s (Bg.s (Bg.s (Bg.s Bg.z))))
                        replace hS:=hS.bg (Bg.s (Bg.s Bg.z))
                        replace hS:=hS.bg (Bg.s (Bg.s (Bg.s (Bg.s Bg.z))))
                        replace hS:=hS.bg (Bg.s (Bg.s (Bg.s (Bg.s Bg.z))))
                        replace hS:=hS.bg (Bg.s (Bg.s (Bg.s (Bg.s Bg.z))))
                        exact ⟨_,_,rfl,(aK4 (aO4 (aK2 (aO50 (aO50 (aO50 (aO20 (aO4 aZ)))))))),_,r274.2,r274.1,v277,cs278,rfl,h,(le263.t (le267.t (le270.t le276))),hS,m279⟩
                    · replace h:=iF h257 h
                      refine cseq ?_
                      refine creg ?_
                      refine wl (s_eqi (et d9) ec (dt (q100 (q70 p9))) ?_)
                      refine wl (s_assign (et (k100 (k70 d9))) (dt (q100 (q70 p8))) ?_)
                      refine wnil ?_
                      refine xn ?_
                      refine cifd (et (k100 (k70 d8))) (fun h280=>?_) (fun h280=>?_)
                      · replace h:=iT h280 h
                        refine cseq ?_
                        refine creg ?_
                        refine wl (s_move (et d0) (dt (q100 (q80 p0))) ?_)
                        replace h:=bI h; obtain ⟨r281,g282,h⟩:=h
                        replace hS:=hS.bg (Bg.s (Bg.s (Bg.s (Bg.s Bg.z))))
                        replace hS:=hS.bg (Bg.s (Bg.s Bg.z))
                        refine wl (s_callv isfn84 ef (e1 (et (k100 (k80 d0))) e0) (vf_gen_w hg m6 m7 m31 g282 hS) ?_)
                        rintro rv_ w33 ⟨μ30,v284,v286,cs287,hrv_,le283,hS,m285,m288⟩; obtain rfl:=hrv_.symm
                        refine pu (dt (q100 (q80 p1))) ?_
                        refine wnil ?_
                        refine xn ?_
                        refine creg ?_
                        refine wl (s_move (et d0) (dt (q100 (q80 p2))) ?_)
                        replace h:=bI h; obtain ⟨r289,g290,h⟩:=h
                        replace hS:=hS.bg (Bg.s Bg.z)
                        replace hS:=hS.bg (Bg.s Bg.z)
                        refine wl (s_callv isfn61 ef (e1 (et (k100 (k80 d2))) (e1 ec e0)) (vf_push_w (hg.t le283) m288 g290 hS) ?_)
                        rintro _ w34 ⟨μ31,v292,cs293,rfl,le291,hS,m294⟩
                        refine pu (dt (q100 (q80 p3))) ?_
                        refine wnil ?_
                        refine (fun h=>bn (xl h)) ?_
                        replace hS:=hS.drop (Rm.s (Rm.s Rm.z))
                        replace hS:=hS.bg (Bg.s (Bg.s (Bg.s (Bg.s Bg.z))))
                        replace hS:=hS.bg (Bg.s (Bg.s Bg.z))
                        replace hS:=hS.bg (Bg.s (Bg.s (Bg.s (Bg.s Bg.z))))
                        replace hS:=hS.bg (Bg.s (Bg.s (Bg.s (Bg.s Bg.z))))
                        replace hS:=hS.bg (Bg.s (Bg.s (Bg.s (Bg.s Bg.z))))
                        exact ⟨_,_,rfl,(aK4 (aO4 (aK2 (aO50 (aO50 (aO50 (aO20 (aO4 aZ)))))))),_,r289.2,r289.1,v292,cs293,rfl,h,(le283.t le291),hS,m294⟩
                      · replace h:=iF h280 h
                        refine cskip ?_
                        refine (fun h=>bn (xl h)) ?_
                        replace hS:=hS.drop Rm.z
                        exact ⟨_,_,rfl,(aK4 (aO4 (aK2 (aO50 (aO50 (aO50 (aO20 (aO4 aZ)))))))),_,err_36,stac_28,v29,cs30,rfl,h,Le.r,hS,m31⟩
  · rintro _ t w35 ⟨μ32,i52,l55,v53,cs54,rfl,h,le295,hS,m296⟩
    unfold vf_special_j1 at h
    refine nrm (mK4 (mO4 (mK2 (mO50 (mO50 (mO50 (mO20 (mO4 mz)))))))) ?_
    refine xn ?_
    refine cseq ?_
    refine creg ?_
    refine wl (s_assign ec (dt p4) ?_)
    refine wnil ?_
    refine xn ?_
    refine cret ?_
    obtain rfl:=oI h
    refine ret1 rfl d4 ?_
    replace hS:Sq μ32 w0 _ (.blk b1 94 [.pointer (some ⟨b3,o4,none⟩),.pointer (some ⟨b9,o10,none⟩),.map (some b19),v25,v53,v33,.int .i64 i52]::.map b19 es20 c21::.row v25 3 1 todo_24.length cs26::.row v53 3 1 l55.length cs54::.row v33 4 1 has_32.length cs34::(bitsRes 4 bs22++rsF)):=hS
    exact ⟨_,es20,c21,bs22,v25,cs26,v53,cs54,v33,cs34,rfl,le295,hS,(m23.up le295),(m27.up le295),m296,(m35.up le295)⟩
theorem vf_step_w {fu:Nat} {μ0:M} {w0 w:World} {rsF:List Res} (hg:Le Gm μ0) {b1:Nat} {chec_2:TVc} {b3:Nat} {o4:Nat} {v5:Value} {u_8:TUnit} {b9:Nat} {o10:Nat} {a11:Option Addr} {c12:Nat} {a14:Option Addr} {c15:Nat} {at_18:List (Int×TVs)} {b19:Nat} {es20:List MapEntry} {c21:Nat} {bs22:Bits} {todo_24:List Int} {v25:Value} {cs26:List Value} {stac_28:List Int} {v29:Value} {cs30:List Value} {has_32:List Bool} {v33:Value} {cs34:List Value} {err_36:Int} {p_2:TInstr} {r:Bool×List (Int×TVs)×List Int×List Int×List Bool×Int} (m6:Np μ0 v5 chec_2.m) (m7:At μ0 b3 o4 [v5]) (m13:Sl μ0 a11 c12 u_8.Locals) (m16:Sl μ0 a14 c15 u_8.Code) (m17:At μ0 b9 o10 [.int .i64 u_8.Kind,.int .i64 u_8.Params,.slice a11 u_8.Locals.length c12,.int .i64 u_8.Result,.int .i64 u_8.Takes,.slice a14 u_8.Code.length c15]) (m23:Pil μ0 es20 c21 bs22 at_18) (m27:Rw μ0 cs26 todo_24) (m31:Rw μ0 cs30 stac_28) (m35:Rw μ0 cs34 has_32) (h:vf_step fu chec_2 u_8 at_18 todo_24 stac_28 has_32 err_36 p_2=some r) (hS:Sq μ0 w0 w (.blk b1 94 [.pointer (some ⟨b3,o4,none⟩),.pointer (some ⟨b9,o10,none⟩),.map (some b19),v25,v29,v33,.int .i64 err_36]::.map b19 es20 c21::.row v25 3 1 todo_24.length cs26::.row v29 3 1 stac_28.length cs30::.row v33 4 1 has_32.length cs34::(bitsRes 4 bs22++rsF))):CallsV Tryz.prog 39 [.pointer (some ⟨b1,0,none⟩),.agg ⟨[.int .i64 p_2.Op,.int .i64 p_2.A,.int .i64 p_2.N]⟩] w (fun v w'=>∃ (μ':M) (es37:List MapEntry) (c38:Nat) (bs39:Bits) (v41:Value) (cs42:List Value) (v44:Value) (cs45:List Value) (v47:Value) (cs48:List Value),v=.bool r.1∧Le μ0 μ'∧Sq μ' w0 w' (.blk b1 94 [.pointer (some ⟨b3,o4,none⟩),.pointer (some ⟨b9,o10,none⟩),.map (some b19),v41,v44,v47,.int .i64 r.2.2.2.2.2]::.map b19 es37 c38::.row v41 3 1 r.2.2.1.length cs42::.row v44 3 1 r.2.2.2.1.length cs45::.row v47 4 1 r.2.2.2.2.1.length cs48::(bitsRes 4 bs39++rsF))∧Pil μ' es37 c38 bs39 r.2.1∧Rw μ' cs42 r.2.2.1∧Rw μ' cs45 r.2.2.2.1∧Rw μ' cs48 r.2.2.2.2.1):=by
  unfold vf_step at h
  refine enter Tryz.func39 rfl (frm:=[_,_,_,_,_,_,_,_,_,_,_,_,_,_,_,_,_,_,_,_,_,_,_,_,_,_,_,_,_,_,_,_,_,_,_,_,_,_,_,_,_,_,_,_,_,_,_,_,_,_,_,_,_,_,_,_,_,_,_,_,_,_,_,_,_,_,_,_,_,_,_,_,_,_,_,_,_,_,_,_,_,_,_,_,_,_,_,_,_,_,_,_,_,_,_,_,_,_,_,_,_,_,_,_,_,_,_,_,_,_,_,_,_,_,_,_,_,_,_,_,_,_,_,_,_,_,_,_,_,_,_,_,_,_,_,_,_,_,_,_,_,_,_,_,_,_,_,_,_,_,_,_,_,_,_,_,_,_,_,_,_,_,_,_,_,_,_,_,_,_,_,_,_,_,_,_,_,_,_,_,_,_,_,_,_,_,_,_,_,_,_,_,_]) rfl ?_
  refine cseq ?_
  refine creg ?_
  refine wl (s_box (et d1) rfl hS ?_); clear hS; intro b50 w1 hb51 hS; refine pu (dt p3) ?_
  refine wl (s_assign ec (dt p4) ?_)
  refine wnil ?_
  refine xn ?_
  refine cseq ?_
  refine creg ?_
  refine wl (s_assign ec (dt p5) ?_)
  refine wl (s_assign ec (dt p6) ?_)
  refine wnil ?_
  refine xn ?_
  refine cseq ?_
  refine cseq ?_
  refine creg ?_
  refine wl (s_fa fa43_0 (et d3) rfl (dt p9) ?_)
  refine wl (s_load ti3 (et d9) ((hS.blk d0).cell d0) (dt (q10 p0)) ?_)
  refine wl (s_assign (et (k10 d0)) (dt p7) ?_)
  refine wnil ?_
  refine xn ?_
  refine ccutE ([4]++[8]++rg 11 182) (by decide +kernel) (fun m w=>∃ (μx:M) (i52:Int) (l55:List Int) (v53:Value) (cs54:List Value) (l59:List Int) (v57:Value) (cs58:List Value) (l63:List Bool) (v61:Value) (cs62:List Value) (l68:List (Int×TVs)) (es65:List MapEntry) (c66:Nat) (bs67:Bits),m=(yK4 (yO1 4 (yK3 (yO1 8 (yK2 (yO50 11 (yO50 61 (yO50 111 (yO20 161 (yO10 181 (yO2 191 [])))))))))))∧vf_step_j1 i52 l55 l59 l63 l68=some r∧Le μ0 μx∧Sq μx w0 w (.blk b1 94 [.pointer (some ⟨b3,o4,none⟩),.pointer (some ⟨b9,o10,none⟩),.map (some b19),v53,v57,v61,.int .i64 i52]::.map b19 es65 c66::.row v53 3 1 l55.length cs54::.row v57 3 1 l59.length cs58::.row v61 4 1 l63.length cs62::(bitsRes 4 bs67++rsF))∧Rw μx cs54 l55∧Rw μx cs58 l59∧Rw μx cs62 l63∧Pil μx es65 c66 bs67 l68) (by rintro _ _ ⟨_,_,_,_,_,_,_,_,_,_,_,_,_,_,_,rfl,_⟩; rfl) ?_ ?_
  · refine cblock ?_
    refine cseq ?_
    refine creg ?_
    refine wl (s_move (et d7) (dt (q10 p5)) ?_)
    refine wl (s_eqi (et (k10 d5)) ec (dt (q10 p6)) ?_)
    refine wl (s_assign (et (k10 d6)) (dt (q10 p4)) ?_)
    refine wnil ?_
    refine xn ?_
    refine cifd (et (k10 d4)) (fun h70=>?_) (fun h70=>?_)
    · replace h:=iT h70 h
      refine creg ?_
      refine wl (s_move (et d0) (dt (q10 p7)) ?_)
      refine wl (s_move (et d5) (dt (q10 p8)) ?_)
      replace h:=bI h; obtain ⟨r71,g72,h⟩:=h
      replace hS:=hS.bg (Bg.s (Bg.s (Bg.s (Bg.s Bg.z))))
      replace hS:=hS.bg (Bg.s (Bg.s Bg.z))
      refine wl (s_callv isfn61 ef (e1 (et (k10 d7)) (e1 (et (k10 d8)) e0)) (vf_push_w hg m31 g72 hS) ?_)
      rintro _ w2 ⟨μ1,v74,cs75,rfl,le73,hS,m76⟩
      refine pu (dt (q10 p9)) ?_
      refine wnil ?_
      refine (fun h=>bn (xl h)) ?_
      replace hS:=hS.drop (Rm.s (Rm.s Rm.z))
      replace hS:=hS.bg (Bg.s (Bg.s (Bg.s (Bg.s Bg.z))))
      replace hS:=hS.bg (Bg.s (Bg.s Bg.z))
      replace hS:=hS.bg (Bg.s (Bg.s (Bg.s (Bg.s Bg.z))))
      replace hS:=hS.bg (Bg.s (Bg.s (Bg.s (Bg.s Bg.z))))
      replace hS:=hS.bg (Bg.s (Bg.s (Bg.s (Bg.s Bg.z))))
      exact ⟨_,_,rfl,(aK4 (aO1 (aK3 (aO1 (aK2 (aO50 (aO50 (aO50 (aO20 (aO10 (aO2 aZ))))))))))),_,r71.2,todo_24,v25,cs26,r71.1,v74,cs75,has_32,v33,cs34,at_18,es20,c21,bs22,rfl,h,le73,hS,(m27.up le73),m76,(m35.up le73),(m23.up le73)⟩
    · replace h:=iF h70 h
      refine cseq ?_
      refine creg ?_
      refine wl (s_move (et d7) (dt (q20 p1)) ?_)
      refine wl (s_eqi (et (k20 d1)) ec (dt (q20 p2)) ?_)
      refine wl (s_assign (et (k20 d2)) (dt (q20 p0)) ?_)
      refine wnil ?_
      refine xn ?_
      refine cifd (et (k20 d0)) (fun h77=>?_) (fun h77=>?_)
      · replace h:=iT h77 h
        refine creg ?_
        refine wl (s_move (et d0) (dt (q20 p3)) ?_)
        refine wl (s_move (et d6) (dt (q20 p4)) ?_)
        replace h:=bI h; obtain ⟨r78,g79,h⟩:=h
        replace hS:=hS.bg (Bg.s (Bg.s (Bg.s (Bg.s Bg.z))))
        replace hS:=hS.bg (Bg.s (Bg.s Bg.z))
        refine wl (s_callv isfn61 ef (e1 (et (k20 d3)) (e1 (et (k20 d4)) e0)) (vf_push_w hg m31 g79 hS) ?_)
        rintro _ w3 ⟨μ2,v81,cs82,rfl,le80,hS,m83⟩
        refine pu (dt (q20 p5)) ?_
        refine wnil ?_
        refine (fun h=>bn (xl h)) ?_
        replace hS:=hS.drop (Rm.s (Rm.s Rm.z))
        replace hS:=hS.bg (Bg.s (Bg.s (Bg.s (Bg.s Bg.z))))
        replace hS:=hS.bg (Bg.s (Bg.s Bg.z))
        replace hS:=hS.bg (Bg.s (Bg.s (Bg.s (Bg.s Bg.z))))
        replace hS:=hS.bg (Bg.s (Bg.s (Bg.s (Bg.s Bg.z))))
        replace hS:=hS.bg (Bg.s (Bg.s (Bg.s (Bg.s Bg.z))))
        exact ⟨_,_,rfl,(aK4 (aO1 (aK3 (aO1 (aK2 (aO50 (aO50 (aO50 (aO20 (aO10 (aO2 aZ))))))))))),_,r78.2,todo_24,v25,cs26,r78.1,v81,cs82,has_32,v33,cs34,at_18,es20,c21,bs22,rfl,h,le80,hS,(m27.up le80),m83,(m35.up le80),(m23.up le80)⟩
      · replace h:=iF h77 h
        refine cseq ?_
        refine creg ?_
        refine wl (s_move (et d7) (dt (q20 p7)) ?_)
        refine wl (s_eqi (et (k20 d7)) ec (dt (q20 p8)) ?_)
        refine wl (s_assign (et (k20 d8)) (dt (q20 p6)) ?_)
        refine wnil ?_
        refine xn ?_
        refine cifd (et (k20 d6)) (fun h84=>?_) (fun h84=>?_)
        · replace h:=iT h84 h
          refine cseq ?_
          refine cseq ?_
          refine cdraw (by kernel_rfl) rfl fun w4 hh_ ho_ ht_ hu_=>?_
          replace hS:=hS.drew hh_ ho_ ht_ hu_
          refine sf_start ?_
          refine sf_pu (i:=0) [0,1,2,3,4,7,8,9] (blind_of fun _ _ _ h=>h.2) rfl rfl rfl (u_move (et d0)) (q20 p9) ?_
          refine sf_pu (i:=1) [1,2,3,4,7,8,9] (blind_of fun _ _ _ h=>h.2) rfl rfl rfl (u_nilck (et (k20 d9))) (q30 p0) ?_
          refine sf_pu (i:=2) [2,3,4,7,8,9] (blind_of fun _ _ _ h=>h.2) rfl rfl rfl (u_fa fa94_4 (et (k30 d0)) rfl) (q30 p1) ?_
          refine sf_pu (i:=3) [3,4,7,8,9] (blind_of fun _ _ _ h=>h.2) rfl rfl rfl (u_fa fa92_1 (et (k30 d1)) rfl) (q30 p2) ?_
          refine sf_rd (i:=4) [4,7,8,9] (blind_of fun _ _ _ h=>h.2) rfl rfl rfl (u_load ti90 (et (k30 d2)) ((hS.blk d1).cell d5)) (q30 p3) ?_
          refine sf_pu (i:=5) [5,6,7,8,9] (blind_of fun _ _ _ h=>h.2) rfl rfl rfl (u_fa fa43_1 (et d3) rfl) (q30 p4) ?_
          refine sf_rd (i:=6) [6,7,8,9] (blind_of fun _ _ _ h=>h.2) rfl rfl rfl (u_load ti3 (et (k30 d4)) ((hS.blk d0).cell d1)) (q30 p5) ?_
          replace h:=bI h; obtain ⟨x85,g86,h⟩:=h
          obtain ⟨b87,o88,pc89,cs90,sc91,ec92,e93,f94,m95,pn96,st97,m98⟩:=Row.elemS (α:=Bool) (hS.get d5) m35 rfl g86
          rw [ec92] at hS
          obtain rfl:=m95
          refine sf_pu (i:=7) [7,8,9] (blind_of fun _ _ _ h=>h.2) rfl rfl rfl (u_iax Tryz.underlying90 ti4 (et (k30 d3)) (et (k30 d5)) e93) (q30 p6) ?_
          refine sf_rd (i:=8) [8,9] (blind_of fun _ _ _ h=>h.2) rfl rfl rfl (u_load ti4 (et (k30 d6)) ((f94 _ _ _ (hS.get d5) rfl).one d0)) (q30 p7) ?_
          refine sf_pu (i:=9) [9] (blind_of fun _ _ _ h=>h.2) rfl rfl rfl (u_not (et (k30 d7))) (q30 p8) ?_
          refine sf_nil ?_
          refine xn ?_
          refine ccutE (rg 39 2) (by decide) (fun m w=>∃ (μx:M) (i99:Int),m=(yK20 (yK10 (yK9 (yO2 39 []))))∧vf_step_j2 p_2 u_8 at_18 todo_24 stac_28 has_32 i99=some r∧Le μ0 μx∧Sq μx w0 w (.blk b1 94 [.pointer (some ⟨b3,o4,none⟩),.pointer (some ⟨b9,o10,none⟩),.map (some b19),v25,v29,v33,.int .i64 i99]::.map b19 es20 c21::.row v25 3 1 todo_24.length cs26::.row v29 3 1 stac_28.length cs30::.row v33 4 1 has_32.length cs34::.blk b50 43 [.int .i64 p_2.Op,.int .i64 p_2.A,.int .i64 p_2.N]::(bitsRes 4 bs22++rsF))) (by rintro _ _ ⟨_,_,rfl,_⟩; rfl) ?_ ?_
          · refine cifnb (et (k30 d8)) (fun h100=>?_) (fun h100=>?_)
            · replace h:=iF h100 h
              refine creg ?_
              refine wl (s_move (et d0) (dt (q30 p9)) ?_)
              replace h:=bI h; obtain ⟨r101,g102,h⟩:=h
              replace hS:=hS.bg (Bg.s Bg.z)
              refine wl (s_callv isfn57 ef (e1 (et (k30 d9)) (e1 ec e0)) (vf_fail_w hg g102 hS) ?_)
              rintro _ w5 ⟨μ3,rfl,le103,hS⟩
              refine pu (dt (q40 p0)) ?_
              refine wnil ?_
              refine xl ?_
              rw [← ec92] at hS
              replace hS:=hS.bg (Bg.s Bg.z)
              replace hS:=hS.bg (Bg.s (Bg.s (Bg.s (Bg.s (Bg.s Bg.z)))))
              replace hS:=hS.bg (Bg.s (Bg.s (Bg.s (Bg.s (Bg.s Bg.z)))))
              replace hS:=hS.bg (Bg.s (Bg.s (Bg.s (Bg.s (Bg.s Bg.z)))))
              replace hS:=hS.bg (Bg.s (Bg.s (Bg.s (Bg.s (Bg.s Bg.z)))))
              replace hS:=hS.bg (Bg.s (Bg.s (Bg.s (Bg.s (Bg.s Bg.z)))))
              exact ⟨_,_,rfl,(aK20 (aK10 (aK9 (aO2 aZ)))),_,r101,rfl,h,le103,hS⟩
            · replace h:=iT h100 h
              refine cskip ?_
              refine xl ?_
              rw [← ec92] at hS
              replace hS:=hS.bg (Bg.s (Bg.s (Bg.s (Bg.s (Bg.s Bg.z)))))
              replace hS:=hS.bg (Bg.s (Bg.s (Bg.s (Bg.s (Bg.s Bg.z)))))
              replace hS:=hS.bg (Bg.s (Bg.s (Bg.s (Bg.s (Bg.s Bg.z)))))
              replace hS:=hS.bg (Bg.s (Bg.s (Bg.s (Bg.s (Bg.s Bg.z)))))
              replace hS:=hS.bg (Bg.s (Bg.s (Bg.s (Bg.s (Bg.s Bg.z)))))
              exact ⟨_,_,rfl,(aK20 (aK10 (aK9 (aO2 aZ)))),_,err_36,rfl,h,Le.r,hS⟩
          · rintro _ t w6 ⟨μ4,i99,rfl,h,le104,hS⟩
            unfold vf_step_j2 at h
            refine nrm (mK20 (mK10 (mK9 (mO2 mz)))) ?_
            refine xn ?_
            refine cdraw (by kernel_rfl) rfl fun w7 hh_ ho_ ht_ hu_=>?_
            replace hS:=hS.drew hh_ ho_ ht_ hu_
            refine sf_start ?_
            refine sf_pu (i:=0) [0,12] (blind_of fun _ _ _ h=>h.2) rfl rfl rfl (u_move (et d0)) (q40 p1) ?_
            refine sf_pu (i:=1) [1,2,3,4,5,6,7,10,11,12] (blind_of fun _ _ _ h=>h.2) rfl rfl rfl (u_move (et d0)) (q40 p2) ?_
            refine sf_pu (i:=2) [2,3,4,5,6,7,10,11,12] (blind_of fun _ _ _ h=>h.2) rfl rfl rfl (u_nilck (et (k40 d2))) (q40 p3) ?_
            refine sf_pu (i:=3) [3,4,5,6,7,10,11,12] (blind_of fun _ _ _ h=>h.2) rfl rfl rfl (u_fa fa94_1 (et (k40 d3)) rfl) (q40 p4) ?_
            refine sf_rd (i:=4) [4,5,6,7,10,11,12] (blind_of fun _ _ _ h=>h.2) rfl rfl rfl (u_load ti70 (et (k40 d4)) ((hS.blk d0).cell d1)) (q40 p5) ?_
            refine sf_pu (i:=5) [5,6,7,10,11,12] (blind_of fun _ _ _ h=>h.2) rfl rfl rfl (u_nilck (et (k40 d5))) (q40 p6) ?_
            refine sf_pu (i:=6) [6,7,10,11,12] (blind_of fun _ _ _ h=>h.2) rfl rfl rfl (u_fa fa41_2 (et (k40 d6)) rfl) (q40 p7) ?_
            refine sf_rd (i:=7) [7,10,11,12] (blind_of fun _ _ _ h=>h.2) rfl rfl rfl (u_load ti38 (et (k40 d7)) ((m17 _ (le104 _ hS.a)).one d2)) (q40 p8) ?_
            refine sf_pu (i:=8) [8,9,10,11,12] (blind_of fun _ _ _ h=>h.2) rfl rfl rfl (u_fa fa43_1 (et d3) rfl) (q40 p9) ?_
            refine sf_rd (i:=9) [9,10,11,12] (blind_of fun _ _ _ h=>h.2) rfl rfl rfl (u_load ti3 (et (k40 d9)) ((hS.blk d5).cell d1)) (q50 p0) ?_
            replace h:=bI h; obtain ⟨x105,g106,h⟩:=h
            obtain ⟨b107,o108,cs109,e110,f111,m112⟩:=SlR.elem (m13.up le104) g106
            obtain rfl:=m112
            refine sf_pu (i:=10) [10,11,12] (blind_of fun _ _ _ h=>h.2) rfl rfl rfl (u_iax Tryz.underlying38 ti3 (et (k40 d8)) (et (k50 d0)) e110) (q50 p1) ?_
            refine sf_rd (i:=11) [11,12] (blind_of fun _ _ _ h=>h.2) rfl rfl rfl (u_load ti3 (et (k50 d1)) ((f111 _ hS.a).one d0)) (q50 p2) ?_
            replace h:=bI h; obtain ⟨r113,g114,h⟩:=h
            replace hS:=hS.bg (Bg.s (Bg.s (Bg.s Bg.z)))
            replace hS:=hS.bg (Bg.s Bg.z)
            refine sf1 rfl rfl rfl rfl (wn0 rfl) (s_callv isfn61 ef (e1 (et (k40 d1)) (e1 (et (k50 d2)) e0)) (vf_push_w (hg.t le104) (m31.up le104) g114 hS) ?_)
            rintro _ w8 ⟨μ5,v116,cs117,rfl,le115,hS,m118⟩
            refine pu (dt (q50 p3)) ?_
            refine ⟨Mons.z,?_⟩
            refine sf_nil ?_
            refine (fun h=>bn (xl h)) ?_
            replace hS:=hS.drop (Rm.s (Rm.s (Rm.s (Rm.s (Rm.s Rm.z)))))
            replace hS:=hS.bg (Bg.s (Bg.s (Bg.s (Bg.s Bg.z))))
            replace hS:=hS.bg (Bg.s (Bg.s Bg.z))
            replace hS:=hS.bg (Bg.s (Bg.s (Bg.s (Bg.s Bg.z))))
            replace hS:=hS.bg (Bg.s (Bg.s (Bg.s (Bg.s Bg.z))))
            replace hS:=hS.bg (Bg.s (Bg.s (Bg.s (Bg.s Bg.z))))
            exact ⟨_,_,rfl,(aK4 (aO1 (aK3 (aO1 (aK2 (aO50 (aO50 (aO50 (aO20 (aO10 (aO2 aZ))))))))))),_,r113.2,todo_24,v25,cs26,r113.1,v116,cs117,has_32,v33,cs34,at_18,es20,c21,bs22,rfl,h,(le104.t le115),hS,(m27.up (le104.t le115)),m118,(m35.up (le104.t le115)),(m23.up (le104.t le115))⟩
        · replace h:=iF h84 h
          refine cseq ?_
          refine creg ?_
          refine wl (s_move (et d7) (dt (q50 p5)) ?_)
          refine wl (s_eqi (et (k50 d5)) ec (dt (q50 p6)) ?_)
          refine wl (s_assign (et (k50 d6)) (dt (q50 p4)) ?_)
          refine wnil ?_
          refine xn ?_
          refine cifd (et (k50 d4)) (fun h119=>?_) (fun h119=>?_)
          · replace h:=iT h119 h
            refine cseq ?_
            refine cdraw (by kernel_rfl) rfl fun w9 hh_ ho_ ht_ hu_=>?_
            replace hS:=hS.drew hh_ ho_ ht_ hu_
            refine sf_start ?_
            refine sf_pu (i:=0) [0,13] (blind_of fun _ _ _ h=>h.2) rfl rfl rfl (u_move (et d0)) (q50 p7) ?_
            refine sf_pu (i:=1) [1,2,3,4,5,6,7,10,11,12,13] (blind_of fun _ _ _ h=>h.2) rfl rfl rfl (u_move (et d0)) (q50 p8) ?_
            refine sf_pu (i:=2) [2,3,4,5,6,7,10,11,12,13] (blind_of fun _ _ _ h=>h.2) rfl rfl rfl (u_nilck (et (k50 d8))) (q50 p9) ?_
            refine sf_pu (i:=3) [3,4,5,6,7,10,11,12,13] (blind_of fun _ _ _ h=>h.2) rfl rfl rfl (u_fa fa94_1 (et (k50 d9)) rfl) (q60 p0) ?_
            refine sf_rd (i:=4) [4,5,6,7,10,11,12,13] (blind_of fun _ _ _ h=>h.2) rfl rfl rfl (u_load ti70 (et (k60 d0)) ((hS.blk d1).cell d1)) (q60 p1) ?_
            refine sf_pu (i:=5) [5,6,7,10,11,12,13] (blind_of fun _ _ _ h=>h.2) rfl rfl rfl (u_nilck (et (k60 d1))) (q60 p2) ?_
            refine sf_pu (i:=6) [6,7,10,11,12,13] (blind_of fun _ _ _ h=>h.2) rfl rfl rfl (u_fa fa41_2 (et (k60 d2)) rfl) (q60 p3) ?_
            refine sf_rd (i:=7) [7,10,11,12,13] (blind_of fun _ _ _ h=>h.2) rfl rfl rfl (u_load ti38 (et (k60 d3)) ((m17 _ hS.a).one d2)) (q60 p4) ?_
            refine sf_pu (i:=8) [8,9,10,11,12,13] (blind_of fun _ _ _ h=>h.2) rfl rfl rfl (u_fa fa43_1 (et d3) rfl) (q60 p5) ?_
            refine sf_rd (i:=9) [9,10,11,12,13] (blind_of fun _ _ _ h=>h.2) rfl rfl rfl (u_load ti3 (et (k60 d5)) ((hS.blk d0).cell d1)) (q60 p6) ?_
            replace h:=bI h; obtain ⟨x120,g121,h⟩:=h
            obtain ⟨b122,o123,cs124,e125,f126,m127⟩:=SlR.elem m13 g121
            obtain rfl:=m127
            refine sf_pu (i:=10) [10,11,12,13] (blind_of fun _ _ _ h=>h.2) rfl rfl rfl (u_iax Tryz.underlying38 ti3 (et (k60 d4)) (et (k60 d6)) e125) (q60 p7) ?_
            refine sf_rd (i:=11) [11,12,13] (blind_of fun _ _ _ h=>h.2) rfl rfl rfl (u_load ti3 (et (k60 d7)) ((f126 _ hS.a).one d0)) (q60 p8) ?_
            refine sf1 rfl rfl rfl rfl (wn0 rfl) (s_bsl Tryz.underlying38 ti3 (Parts.s (et (k60 d8)) rfl Parts.z) rfl rfl hS ?_); clear hS; intro b128 w10 hb129 hS; refine pu (dt (q60 p9)) ?_
            refine ⟨Mons.z,?_⟩
            obtain ⟨μ6,le131,m130,hS⟩:=Sep.frzBlk (l:=([x120]:List Int)) hS (Rw.one (α:=Int) rfl) (Nat.le_of_ble_eq_true rfl)
            replace h:=bI h; obtain ⟨r132,g133,h⟩:=h
            replace hS:=hS.bg (Bg.s (Bg.s (Bg.s (Bg.s Bg.z))))
            replace hS:=hS.bg (Bg.s (Bg.s Bg.z))
            refine sf1 rfl rfl rfl rfl (wn0 rfl) (s_callv isfn62 ef (e1 (et (k50 d7)) (e1 (et (k60 d9)) e0)) (vf_want_w (hg.t le131) (m31.up le131) m130 g133 hS) ?_)
            rintro _ w11 ⟨μ7,v135,cs136,rfl,le134,hS,m137⟩
            refine pu (dt (q70 p0)) ?_
            refine ⟨Mons.z,?_⟩
            refine sf_nil ?_
            refine xn ?_
            refine cdraw (by kernel_rfl) rfl fun w12 hh_ ho_ ht_ hu_=>?_
            replace hS:=hS.drew hh_ ho_ ht_ hu_
            refine sf_start ?_
            refine sf_pu (i:=0) [0,1,2,3,4,7,8] (blind_of fun _ _ _ h=>h.2) rfl rfl rfl (u_move (et d0)) (q70 p1) ?_
            refine sf_pu (i:=1) [1,2,3,4,7,8] (blind_of fun _ _ _ h=>h.2) rfl rfl rfl (u_nilck (et (k70 d1))) (q70 p2) ?_
            refine sf_pu (i:=2) [2,3,4,7,8] (blind_of fun _ _ _ h=>h.2) rfl rfl rfl (u_fa fa94_4 (et (k70 d2)) rfl) (q70 p3) ?_
            refine sf_pu (i:=3) [3,4,7,8] (blind_of fun _ _ _ h=>h.2) rfl rfl rfl (u_fa fa92_1 (et (k70 d3)) rfl) (q70 p4) ?_
            refine sf_rd (i:=4) [4,7,8] (blind_of fun _ _ _ h=>h.2) rfl rfl rfl (u_load ti90 (et (k70 d4)) ((hS.blk d0).cell d5)) (q70 p5) ?_
            refine sf_pu (i:=5) [5,6,7,8] (blind_of fun _ _ _ h=>h.2) rfl rfl rfl (u_fa fa43_1 (et d3) rfl) (q70 p6) ?_
            refine sf_rd (i:=6) [6,7,8] (blind_of fun _ _ _ h=>h.2) rfl rfl rfl (u_load ti3 (et (k70 d6)) ((hS.blk d2).cell d1)) (q70 p7) ?_
            replace h:=bI h; obtain ⟨x138,g139,h⟩:=h
            obtain ⟨b140,o141,pc142,cs143,sc144,ec145,e146,f147,m148,pn149,st150,m151⟩:=Row.elemS (α:=Bool) (hS.get d5) (m35.up (le131.t le134)) rfl g139
            rw [ec145] at hS
            obtain rfl:=m148
            refine sf_pu (i:=7) [7,8] (blind_of fun _ _ _ h=>h.2) rfl rfl rfl (u_iax Tryz.underlying90 ti4 (et (k70 d5)) (et (k70 d7)) e146) (q70 p8) ?_
            have m152:=st150 _ [.bool true] true Le.r rfl
            refine sf1 rfl rfl rfl rfl (wn0 rfl) (s_storeR (off:=0) ti4 (et (k70 d8)) ec rfl rfl rfl hS d5 e146 (Nat.le_of_ble_eq_true rfl) (open_store pn149 rfl (Nat.le_of_ble_eq_true rfl)) p5 dn ?_); clear hS; intro w13 hS
            replace hS:Sq μ7 w0 w13 (.blk b1 94 [.pointer (some ⟨b3,o4,none⟩),.pointer (some ⟨b9,o10,none⟩),.map (some b19),v25,v135,v33,.int .i64 r132.2]::.row v135 3 1 r132.1.length cs136::.blk b50 43 [.int .i64 p_2.Op,.int .i64 p_2.A,.int .i64 p_2.N]::.map b19 es20 c21::.row v25 3 1 todo_24.length cs26::.row v33 4 1 (has_32.set p_2.A.toNat true).length (pc142++([.bool true]++sc144))::(bitsRes 4 bs22++rsF)):=by rw [List.length_set]; exact hS
            refine ⟨Mons.z,?_⟩
            refine sf_nil ?_
            refine (fun h=>bn (xl h)) ?_
            replace hS:=hS.drop (Rm.s (Rm.s Rm.z))
            replace hS:=hS.bg (Bg.s (Bg.s (Bg.s (Bg.s Bg.z))))
            replace hS:=hS.bg (Bg.s (Bg.s Bg.z))
            replace hS:=hS.bg (Bg.s (Bg.s (Bg.s (Bg.s Bg.z))))
            replace hS:=hS.bg (Bg.s (Bg.s (Bg.s (Bg.s Bg.z))))
            replace hS:=hS.bg (Bg.s (Bg.s (Bg.s (Bg.s Bg.z))))
            exact ⟨_,_,rfl,(aK4 (aO1 (aK3 (aO1 (aK2 (aO50 (aO50 (aO50 (aO20 (aO10 (aO2 aZ))))))))))),_,r132.2,todo_24,v25,cs26,r132.1,v135,cs136,(has_32.set p_2.A.toNat true),v33,(pc142++([.bool true]++sc144)),at_18,es20,c21,bs22,rfl,h,(le131.t le134),hS,(m27.up (le131.t le134)),m137,m152,(m23.up (le131.t le134))⟩
          · replace h:=iF h119 h
            refine cseq ?_
            refine creg ?_
            refine wl (s_move (et d7) (dt (q80 p0)) ?_)
            refine wl (s_eqi (et (k80 d0)) ec (dt (q80 p1)) ?_)
            refine wl (s_assign (et (k80 d1)) (dt (q70 p9)) ?_)
            refine wnil ?_
            refine xn ?_
            refine cifd (et (k70 d9)) (fun h153=>?_) (fun h153=>?_)
            · replace h:=iT h153 h
              refine creg ?_
              refine wl (s_move (et d0) (dt (q80 p2)) ?_)
              replace h:=bI h; obtain ⟨r154,g155,h⟩:=h
              replace hS:=hS.bg (Bg.s (Bg.s (Bg.s (Bg.s Bg.z))))
              replace hS:=hS.bg (Bg.s (Bg.s Bg.z))
              refine wl (s_callv isfn63 ef (e1 (et (k80 d2)) e0) (vf_pop_w hg m31 g155 hS) ?_)
              rintro _ w14 ⟨μ8,v157,cs158,rfl,le156,hS,m159⟩
              refine pu (dt (q80 p3)) ?_
              refine wnil ?_
              refine (fun h=>bn (xl h)) ?_
              replace hS:=hS.drop (Rm.s (Rm.s Rm.z))
              replace hS:=hS.bg (Bg.s (Bg.s (Bg.s (Bg.s Bg.z))))
              replace hS:=hS.bg (Bg.s (Bg.s Bg.z))
              replace hS:=hS.bg (Bg.s (Bg.s (Bg.s (Bg.s Bg.z))))
              replace hS:=hS.bg (Bg.s (Bg.s (Bg.s (Bg.s Bg.z))))
              replace hS:=hS.bg (Bg.s (Bg.s (Bg.s (Bg.s Bg.z))))
              exact ⟨_,_,rfl,(aK4 (aO1 (aK3 (aO1 (aK2 (aO50 (aO50 (aO50 (aO20 (aO10 (aO2 aZ))))))))))),_,r154.2.2,todo_24,v25,cs26,r154.2.1,v157,cs158,has_32,v33,cs34,at_18,es20,c21,bs22,rfl,h,le156,hS,(m27.up le156),m159,(m35.up le156),(m23.up le156)⟩
            · replace h:=iF h153 h
              refine cseq ?_
              refine creg ?_
              refine wl (s_move (et d7) (dt (q80 p5)) ?_)
              refine wl (s_eqi (et (k80 d5)) ec (dt (q80 p6)) ?_)
              refine wl (s_assign (et (k80 d6)) (dt (q80 p4)) ?_)
              refine wnil ?_
              refine xn ?_
              refine cifd (et (k80 d4)) (fun h160=>?_) (fun h160=>?_)
              · replace h:=iT h160 h
                refine cseq ?_
                refine creg ?_
                refine wl (s_move (et d0) (dt (q80 p7)) ?_)
                refine wl (s_move (et d5) (dt (q80 p8)) ?_)
                refine wl (s_bsl Tryz.underlying38 ti3 (Parts.s (et (k80 d8)) rfl Parts.z) rfl rfl hS ?_); clear hS; intro b161 w15 hb162 hS; refine pu (dt (q80 p9)) ?_
                obtain ⟨μ9,le164,m163,hS⟩:=Sep.frzBlk (l:=([1]:List Int)) hS (Rw.one (α:=Int) rfl) (Nat.le_of_ble_eq_true rfl)
                replace h:=bI h; obtain ⟨r165,g166,h⟩:=h
                replace hS:=hS.bg (Bg.s (Bg.s (Bg.s (Bg.s Bg.z))))
                replace hS:=hS.bg (Bg.s (Bg.s Bg.z))
                refine wl (s_callv isfn62 ef (e1 (et (k80 d7)) (e1 (et (k80 d9)) e0)) (vf_want_w (hg.t le164) (m31.up le164) m163 g166 hS) ?_)
                rintro _ w16 ⟨μ10,v168,cs169,rfl,le167,hS,m170⟩
                refine pu (dt (q90 p0)) ?_
                refine wnil ?_
                refine xn ?_
                refine creg ?_
                refine wl (s_move (et d0) (dt (q90 p1)) ?_)
                refine wl (s_move (et d5) (dt (q90 p2)) ?_)
                replace h:=bI h; obtain ⟨r171,g172,h⟩:=h
                replace hS:=hS.bg (Bg.s Bg.z)
                replace hS:=hS.bg (Bg.s Bg.z)
                refine wl (s_callv isfn61 ef (e1 (et (k90 d1)) (e1 (et (k90 d2)) e0)) (vf_push_w (hg.t (le164.t le167)) m170 g172 hS) ?_)
                rintro _ w17 ⟨μ11,v174,cs175,rfl,le173,hS,m176⟩
                refine pu (dt (q90 p3)) ?_
                refine wnil ?_
                refine (fun h=>bn (xl h)) ?_
                replace hS:=hS.drop (Rm.s (Rm.s Rm.z))
                replace hS:=hS.bg (Bg.s (Bg.s (Bg.s (Bg.s Bg.z))))
                replace hS:=hS.bg (Bg.s (Bg.s Bg.z))
                replace hS:=hS.bg (Bg.s (Bg.s (Bg.s (Bg.s Bg.z))))
                replace hS:=hS.bg (Bg.s (Bg.s (Bg.s (Bg.s Bg.z))))
                replace hS:=hS.bg (Bg.s (Bg.s (Bg.s (Bg.s Bg.z))))
                exact ⟨_,_,rfl,(aK4 (aO1 (aK3 (aO1 (aK2 (aO50 (aO50 (aO50 (aO20 (aO10 (aO2 aZ))))))))))),_,r171.2,todo_24,v25,cs26,r171.1,v174,cs175,has_32,v33,cs34,at_18,es20,c21,bs22,rfl,h,(le164.t (le167.t le173)),hS,(m27.up (le164.t (le167.t le173))),m176,(m35.up (le164.t (le167.t le173))),(m23.up (le164.t (le167.t le173)))⟩
              · replace h:=iF h160 h
                refine cseq ?_
                refine creg ?_
                refine wl (s_move (et d7) (dt (q90 p5)) ?_)
                refine wl (s_eqi (et (k90 d5)) ec (dt (q90 p6)) ?_)
                refine wl (s_assign (et (k90 d6)) (dt (q90 p4)) ?_)
                refine wnil ?_
                refine xn ?_
                refine cifd (et (k90 d4)) (fun h177=>?_) (fun h177=>?_)
                · replace h:=iT h177 h
                  refine cseq ?_
                  refine creg ?_
                  refine wl (s_move (et d0) (dt (q90 p7)) ?_)
                  refine wl (s_move (et d6) (dt (q90 p8)) ?_)
                  refine wl (s_bsl Tryz.underlying38 ti3 (Parts.s (et (k90 d8)) rfl Parts.z) rfl rfl hS ?_); clear hS; intro b178 w18 hb179 hS; refine pu (dt (q90 p9)) ?_
                  obtain ⟨μ12,le181,m180,hS⟩:=Sep.frzBlk (l:=([2]:List Int)) hS (Rw.one (α:=Int) rfl) (Nat.le_of_ble_eq_true rfl)
                  replace h:=bI h; obtain ⟨r182,g183,h⟩:=h
                  replace hS:=hS.bg (Bg.s (Bg.s (Bg.s (Bg.s Bg.z))))
                  replace hS:=hS.bg (Bg.s (Bg.s Bg.z))
                  refine wl (s_callv isfn62 ef (e1 (et (k90 d7)) (e1 (et (k90 d9)) e0)) (vf_want_w (hg.t le181) (m31.up le181) m180 g183 hS) ?_)
                  rintro _ w19 ⟨μ13,v185,cs186,rfl,le184,hS,m187⟩
                  refine pu (dt (q100 p0)) ?_
                  refine wnil ?_
                  refine xn ?_
                  refine creg ?_
                  refine wl (s_move (et d0) (dt (q100 p1)) ?_)
                  refine wl (s_move (et d6) (dt (q100 p2)) ?_)
                  replace h:=bI h; obtain ⟨r188,g189,h⟩:=h
                  replace hS:=hS.bg (Bg.s Bg.z)
                  replace hS:=hS.bg (Bg.s Bg.z)
                  refine wl (s_callv isfn61 ef (e1 (et (k100 d1)) (e1 (et (k100 d2)) e0)) (vf_push_w (hg.t (le181.t le184)) m187 g189 hS) ?_)
                  rintro _ w20 ⟨μ14,v191,cs192,rfl,le190,hS,m193⟩
                  refine pu (dt (q100 p3)) ?_
                  refine wnil ?_
                  refine (fun h=>bn (xl h)) ?_
                  replace hS:=hS.drop (Rm.s (Rm.s Rm.z))
                  replace hS:=hS.bg (Bg.s (Bg.s (Bg.s (Bg.s Bg.z))))
                  replace hS:=hS.bg (Bg.s (Bg.s Bg.z))
                  replace hS:=hS.bg (Bg.s (Bg.s (Bg.s (Bg.s Bg.z))))
                  replace hS:=hS.bg (Bg.s (Bg.s (Bg.s (Bg.s Bg.z))))
                  replace hS:=hS.bg (Bg.s (Bg.s (Bg.s (Bg.s Bg.z))))
                  exact ⟨_,_,rfl,(aK4 (aO1 (aK3 (aO1 (aK2 (aO50 (aO50 (aO50 (aO20 (aO10 (aO2 aZ))))))))))),_,r188.2,todo_24,v25,cs26,r188.1,v191,cs192,has_32,v33,cs34,at_18,es20,c21,bs22,rfl,h,(le181.t (le184.t le190)),hS,(m27.up (le181.t (le184.t le190))),m193,(m35.up (le181.t (le184.t le190))),(m23.up (le181.t (le184.t le190)))⟩
                · replace h:=iF h177 h
                  refine cseq ?_
                  refine ccutE (rg 105 6) (by decide) (fun m w=>∃ (μx:M) (b194:Bool),m=(yK50 (yK50 (yK4 (.i (.bool b194)::(yO6 105 [])))))∧vf_step_j3 fu chec_2 p_2 u_8 at_18 todo_24 stac_28 has_32 err_36 b194=some r∧Le μ0 μx∧Sq μx w0 w (.blk b1 94 [.pointer (some ⟨b3,o4,none⟩),.pointer (some ⟨b9,o10,none⟩),.map (some b19),v25,v29,v33,.int .i64 err_36]::.map b19 es20 c21::.row v25 3 1 todo_24.length cs26::.row v29 3 1 stac_28.length cs30::.row v33 4 1 has_32.length cs34::.blk b50 43 [.int .i64 p_2.Op,.int .i64 p_2.A,.int .i64 p_2.N]::(bitsRes 4 bs22++rsF))) (by rintro _ _ ⟨_,_,rfl,_⟩; rfl) ?_ ?_
                  · refine creg ?_
                    refine wl (s_move (et d7) (dt (q100 p5)) ?_)
                    refine wl (s_geq (et (k100 d5)) ec (dt (q100 p6)) ?_)
                    refine wl (s_move (et (k100 d6)) (dt (q100 p7)) ?_)
                    refine wspd (k100 d7) (q100 p7) (q100 p7) (fun h195=>?_) (fun h195=>?_)
                    · replace h:=iT h195 h
                      refine wy rfl (k100 d7) (s_move (et d7) (dt (q100 p8)) ?_)
                      refine wy rfl (k100 d7) (s_leq (et (k100 d8)) ec (dt (q100 p9)) ?_)
                      refine wl (s_pickt (et (k100 d7)) (et (k100 d9)) (dt (q100 (q10 p0))) ?_)
                      refine wl (s_assign (et (k100 (k10 d0))) (dt (q100 p4)) ?_)
                      refine wnil ?_
                      refine xl ?_
                      replace hS:=hS.bg (Bg.s (Bg.s (Bg.s (Bg.s (Bg.s Bg.z)))))
                      replace hS:=hS.bg (Bg.s (Bg.s (Bg.s (Bg.s (Bg.s Bg.z)))))
                      replace hS:=hS.bg (Bg.s (Bg.s (Bg.s (Bg.s (Bg.s Bg.z)))))
                      replace hS:=hS.bg (Bg.s (Bg.s (Bg.s (Bg.s (Bg.s Bg.z)))))
                      replace hS:=hS.bg (Bg.s (Bg.s (Bg.s (Bg.s (Bg.s Bg.z)))))
                      exact ⟨_,_,rfl,(aK50 (aK50 (aK4 (aI (aO6 aZ))))),_,(decide (p_2.Op≤12)),rfl,h,Le.r,hS⟩
                    · replace h:=iF h195 h
                      refine wn rfl (k100 d7) rfl (dt (q100 p8)) ?_
                      refine wn rfl (k100 d7) rfl (dt (q100 p9)) ?_
                      refine wl (s_pickf (et (k100 d7)) ec (dt (q100 (q10 p0))) ?_)
                      refine wl (s_assign (et (k100 (k10 d0))) (dt (q100 p4)) ?_)
                      refine wnil ?_
                      refine xl ?_
                      replace hS:=hS.bg (Bg.s (Bg.s (Bg.s (Bg.s (Bg.s Bg.z)))))
                      replace hS:=hS.bg (Bg.s (Bg.s (Bg.s (Bg.s (Bg.s Bg.z)))))
                      replace hS:=hS.bg (Bg.s (Bg.s (Bg.s (Bg.s (Bg.s Bg.z)))))
                      replace hS:=hS.bg (Bg.s (Bg.s (Bg.s (Bg.s (Bg.s Bg.z)))))
                      replace hS:=hS.bg (Bg.s (Bg.s (Bg.s (Bg.s (Bg.s Bg.z)))))
                      exact ⟨_,_,rfl,(aK50 (aK50 (aK4 (aI (aO6 aZ))))),_,false,rfl,h,Le.r,hS⟩
                  · rintro _ t w21 ⟨μ15,b194,rfl,h,le196,hS⟩
                    unfold vf_step_j3 at h
                    refine nrm (mK50 (mK50 (mK4 (mi (mO6 mz))))) ?_
                    refine xn ?_
                    refine cifb (et (k100 d4)) (fun h197=>?_) (fun h197=>?_)
                    · replace h:=iT h197 h
                      refine cseq ?_
                      refine creg ?_
                      refine wl (s_move (et d0) (dt (q100 (q10 p1))) ?_)
                      refine wl (s_move (et d5) (dt (q100 (q10 p2))) ?_)
                      refine wl (s_move (et d5) (dt (q100 (q10 p3))) ?_)
                      refine wl (s_bsl Tryz.underlying38 ti3 (Parts.s (et (k100 (k10 d2))) rfl (Parts.s (et (k100 (k10 d3))) rfl Parts.z)) rfl rfl hS ?_); clear hS; intro b198 w22 hb199 hS; refine pu (dt (q100 (q10 p4))) ?_
                      obtain ⟨μ16,le201,m200,hS⟩:=Sep.frzBlk (l:=([1,1]:List Int)) hS (Rw.cons (α:=Int) (cs:=[.int .i64 1]) rfl (Rw.cons (α:=Int) (cs:=[.int .i64 1]) rfl Rw.nil)) (Nat.le_of_ble_eq_true rfl)
                      replace h:=bI h; obtain ⟨r202,g203,h⟩:=h
                      replace hS:=hS.bg (Bg.s (Bg.s (Bg.s Bg.z)))
                      replace hS:=hS.bg (Bg.s Bg.z)
                      refine wl (s_callv isfn62 ef (e1 (et (k100 (k10 d1))) (e1 (et (k100 (k10 d4))) e0)) (vf_want_w (hg.t (le196.t le201)) (m31.up (le196.t le201)) m200 g203 hS) ?_)
                      rintro _ w23 ⟨μ17,v205,cs206,rfl,le204,hS,m207⟩
                      refine pu (dt (q100 (q10 p5))) ?_
                      refine wnil ?_
                      refine xn ?_
                      refine creg ?_
                      refine wl (s_move (et d0) (dt (q100 (q10 p6))) ?_)
                      refine wl (s_move (et d5) (dt (q100 (q10 p7))) ?_)
                      replace h:=bI h; obtain ⟨r208,g209,h⟩:=h
                      replace hS:=hS.bg (Bg.s Bg.z)
                      replace hS:=hS.bg (Bg.s Bg.z)
                      refine wl (s_callv isfn61 ef (e1 (et (k100 (k10 d6))) (e1 (et (k100 (k10 d7))) e0)) (vf_push_w (hg.t (le196.t (le201.t le204))) m207 g209 hS) ?_)
                      rintro _ w24 ⟨μ18,v211,cs212,rfl,le210,hS,m213⟩
                      refine pu (dt (q100 (q10 p8))) ?_
                      refine wnil ?_
                      refine (fun h=>bn (xl h)) ?_
                      replace hS:=hS.drop (Rm.s (Rm.s (Rm.s (Rm.s (Rm.s Rm.z)))))
                      replace hS:=hS.bg (Bg.s (Bg.s (Bg.s (Bg.s Bg.z))))
                      replace hS:=hS.bg (Bg.s (Bg.s Bg.z))
                      replace hS:=hS.bg (Bg.s (Bg.s (Bg.s (Bg.s Bg.z))))
                      replace hS:=hS.bg (Bg.s (Bg.s (Bg.s (Bg.s Bg.z))))
                      replace hS:=hS.bg (Bg.s (Bg.s (Bg.s (Bg.s Bg.z))))
                      exact ⟨_,_,rfl,(aK4 (aO1 (aK3 (aO1 (aK2 (aO50 (aO50 (aO50 (aO20 (aO10 (aO2 aZ))))))))))),_,r208.2,todo_24,v25,cs26,r208.1,v211,cs212,has_32,v33,cs34,at_18,es20,c21,bs22,rfl,h,(le196.t (le201.t (le204.t le210))),hS,(m27.up (le196.t (le201.t (le204.t le210)))),m213,(m35.up (le196.t (le201.t (le204.t le210)))),(m23.up (le196.t (le201.t (le204.t le210))))⟩
                    · replace h:=iF h197 h
                      refine cseq ?_
                      refine ccutE (rg 120 6) (by decide) (fun m w=>∃ (μx:M) (b214:Bool),m=(yK50 (yK50 (yK10 (yK9 (.i (.bool b214)::(yO6 120 []))))))∧vf_step_j4 fu chec_2 p_2 u_8 at_18 todo_24 stac_28 has_32 err_36 b214=some r∧Le μ15 μx∧Sq μx w0 w (.blk b1 94 [.pointer (some ⟨b3,o4,none⟩),.pointer (some ⟨b9,o10,none⟩),.map (some b19),v25,v29,v33,.int .i64 err_36]::.map b19 es20 c21::.row v25 3 1 todo_24.length cs26::.row v29 3 1 stac_28.length cs30::.row v33 4 1 has_32.length cs34::.blk b50 43 [.int .i64 p_2.Op,.int .i64 p_2.A,.int .i64 p_2.N]::(bitsRes 4 bs22++rsF))) (by rintro _ _ ⟨_,_,rfl,_⟩; rfl) ?_ ?_
                      · refine creg ?_
                        refine wl (s_move (et d7) (dt (q100 (q20 p0))) ?_)
                        refine wl (s_eqi (et (k100 (k20 d0))) ec (dt (q100 (q20 p1))) ?_)
                        refine wl (s_move (et (k100 (k20 d1))) (dt (q100 (q20 p2))) ?_)
                        refine wspd (k100 (k20 d2)) (q100 (q20 p2)) (q100 (q20 p2)) (fun h215=>?_) (fun h215=>?_)
                        · replace h:=iT h215 h
                          refine wn rfl (k100 (k20 d2)) rfl (dt (q100 (q20 p3))) ?_
                          refine wn rfl (k100 (k20 d2)) rfl (dt (q100 (q20 p4))) ?_
                          refine wl (s_pickt (et (k100 (k20 d2))) ec (dt (q100 (q20 p5))) ?_)
                          refine wl (s_assign (et (k100 (k20 d5))) (dt (q100 (q10 p9))) ?_)
                          refine wnil ?_
                          refine xl ?_
                          exact ⟨_,_,rfl,(aK50 (aK50 (aK10 (aK9 (aI (aO6 aZ)))))),_,true,rfl,h,Le.r,hS⟩
                        · replace h:=iF h215 h
                          refine wy rfl (k100 (k20 d2)) (s_move (et d7) (dt (q100 (q20 p3))) ?_)
                          refine wy rfl (k100 (k20 d2)) (s_eqi (et (k100 (k20 d3))) ec (dt (q100 (q20 p4))) ?_)
                          refine wl (s_pickf (et (k100 (k20 d2))) (et (k100 (k20 d4))) (dt (q100 (q20 p5))) ?_)
                          refine wl (s_assign (et (k100 (k20 d5))) (dt (q100 (q10 p9))) ?_)
                          refine wnil ?_
                          refine xl ?_
                          exact ⟨_,_,rfl,(aK50 (aK50 (aK10 (aK9 (aI (aO6 aZ)))))),_,(decide (p_2.Op=14)),rfl,h,Le.r,hS⟩
                      · rintro _ t w25 ⟨μ19,b214,rfl,h,le216,hS⟩
                        unfold vf_step_j4 at h
                        refine nrm (mK50 (mK50 (mK10 (mK9 (mi (mO6 mz)))))) ?_
                        refine xn ?_
                        refine cifb (et (k100 (k10 d9))) (fun h217=>?_) (fun h217=>?_)
                        · replace h:=iT h217 h
                          refine cseq ?_
                          refine creg ?_
                          refine wl (s_move (et d0) (dt (q100 (q20 p6))) ?_)
                          replace h:=bI h; obtain ⟨r218,g219,h⟩:=h
                          replace hS:=hS.bg (Bg.s (Bg.s (Bg.s Bg.z)))
                          replace hS:=hS.bg (Bg.s Bg.z)
                          refine wl (s_callv isfn63 ef (e1 (et (k100 (k20 d6))) e0) (vf_pop_w (hg.t (le196.t le216)) (m31.up (le196.t le216)) g219 hS) ?_)
                          rintro _ w26 ⟨μ20,v221,cs222,rfl,le220,hS,m223⟩
                          refine pu (dt (q100 (q20 p7))) ?_
                          refine wl (s_assign (et (k100 (k20 d7))) (dt p8) ?_)
                          refine wnil ?_
                          refine xn ?_
                          refine cseq ?_
                          refine cseq ?_
                          refine ccutE (rg 128 7) (by decide) (fun m w=>∃ (μx:M) (b224:Bool),m=(yK50 (yK50 (yK20 (yK8 (yO7 128 (.i (.bool b224)::[]))))))∧vf_step_j5 fu at_18 todo_24 has_32 r218 b224=some r∧Le μ20 μx∧Sq μx w0 w (.blk b1 94 [.pointer (some ⟨b3,o4,none⟩),.pointer (some ⟨b9,o10,none⟩),.map (some b19),v25,v221,v33,.int .i64 r218.2.2]::.map b19 es20 c21::.row v25 3 1 todo_24.length cs26::.row v221 3 1 r218.2.1.length cs222::.row v33 4 1 has_32.length cs34::(bitsRes 4 bs22++rsF))) (by rintro _ _ ⟨_,_,rfl,_⟩; rfl) ?_ ?_
                          · refine creg ?_
                            refine wl (s_move (et d8) (dt (q100 (q20 p8))) ?_)
                            refine wl (s_move (et d5) (dt (q100 (q20 p9))) ?_)
                            refine wl (s_nei (et (k100 (k20 d8))) (et (k100 (k20 d9))) (dt (q100 (q30 p0))) ?_)
                            refine wl (s_move (et (k100 (k30 d0))) (dt (q100 (q30 p1))) ?_)
                            refine wspd (k100 (k30 d1)) (q100 (q30 p1)) (q100 (q30 p1)) (fun h225=>?_) (fun h225=>?_)
                            · replace h:=iT h225 h
                              refine wy rfl (k100 (k30 d1)) (s_move (et d8) (dt (q100 (q30 p2))) ?_)
                              refine wy rfl (k100 (k30 d1)) (s_move (et d6) (dt (q100 (q30 p3))) ?_)
                              refine wy rfl (k100 (k30 d1)) (s_nei (et (k100 (k30 d2))) (et (k100 (k30 d3))) (dt (q100 (q30 p4))) ?_)
                              refine wl (s_pickt (et (k100 (k30 d1))) (et (k100 (k30 d4))) (dt (q100 (q30 p5))) ?_)
                              refine wnil ?_
                              refine xl ?_
                              replace hS:=hS.drop (Rm.s (Rm.s (Rm.s (Rm.s (Rm.s Rm.z)))))
                              replace hS:=hS.bg (Bg.s (Bg.s (Bg.s (Bg.s Bg.z))))
                              replace hS:=hS.bg (Bg.s (Bg.s Bg.z))
                              replace hS:=hS.bg (Bg.s (Bg.s (Bg.s (Bg.s Bg.z))))
                              replace hS:=hS.bg (Bg.s (Bg.s (Bg.s (Bg.s Bg.z))))
                              replace hS:=hS.bg (Bg.s (Bg.s (Bg.s (Bg.s Bg.z))))
                              exact ⟨_,_,rfl,(aK50 (aK50 (aK20 (aK8 (aO7 (aI aZ)))))),_,(decide (r218.1≠2)),rfl,h,Le.r,hS⟩
                            · replace h:=iF h225 h
                              refine wn rfl (k100 (k30 d1)) rfl (dt (q100 (q30 p2))) ?_
                              refine wn rfl (k100 (k30 d1)) rfl (dt (q100 (q30 p3))) ?_
                              refine wn rfl (k100 (k30 d1)) rfl (dt (q100 (q30 p4))) ?_
                              refine wl (s_pickf (et (k100 (k30 d1))) ec (dt (q100 (q30 p5))) ?_)
                              refine wnil ?_
                              refine xl ?_
                              replace hS:=hS.drop (Rm.s (Rm.s (Rm.s (Rm.s (Rm.s Rm.z)))))
                              replace hS:=hS.bg (Bg.s (Bg.s (Bg.s (Bg.s Bg.z))))
                              replace hS:=hS.bg (Bg.s (Bg.s Bg.z))
                              replace hS:=hS.bg (Bg.s (Bg.s (Bg.s (Bg.s Bg.z))))
                              replace hS:=hS.bg (Bg.s (Bg.s (Bg.s (Bg.s Bg.z))))
                              replace hS:=hS.bg (Bg.s (Bg.s (Bg.s (Bg.s Bg.z))))
                              exact ⟨_,_,rfl,(aK50 (aK50 (aK20 (aK8 (aO7 (aI aZ)))))),_,false,rfl,h,Le.r,hS⟩
                          · rintro _ t w27 ⟨μ21,b224,rfl,h,le226,hS⟩
                            unfold vf_step_j5 at h
                            refine nrm (mK50 (mK50 (mK20 (mK8 (mO7 (mi mz)))))) ?_
                            refine xn ?_
                            refine ccutE (rg 136 2) (by decide) (fun m w=>∃ (μx:M) (i227:Int),m=(yK50 (yK50 (yK20 (yK10 (yK6 (yO2 136 []))))))∧vf_step_j6 fu at_18 todo_24 has_32 r218 i227=some r∧Le μ21 μx∧Sq μx w0 w (.blk b1 94 [.pointer (some ⟨b3,o4,none⟩),.pointer (some ⟨b9,o10,none⟩),.map (some b19),v25,v221,v33,.int .i64 i227]::.map b19 es20 c21::.row v25 3 1 todo_24.length cs26::.row v221 3 1 r218.2.1.length cs222::.row v33 4 1 has_32.length cs34::(bitsRes 4 bs22++rsF))) (by rintro _ _ ⟨_,_,rfl,_⟩; rfl) ?_ ?_
                            · refine cifb (et (k100 (k30 d5))) (fun h228=>?_) (fun h228=>?_)
                              · replace h:=iT h228 h
                                refine creg ?_
                                refine wl (s_move (et d0) (dt (q100 (q30 p6))) ?_)
                                replace h:=bI h; obtain ⟨r229,g230,h⟩:=h
                                refine wl (s_callv isfn57 ef (e1 (et (k100 (k30 d6))) (e1 ec e0)) (vf_fail_w (hg.t (le196.t (le216.t (le220.t le226)))) g230 hS) ?_)
                                rintro _ w28 ⟨μ22,rfl,le231,hS⟩
                                refine pu (dt (q100 (q30 p7))) ?_
                                refine wnil ?_
                                refine xl ?_
                                exact ⟨_,_,rfl,(aK50 (aK50 (aK20 (aK10 (aK6 (aO2 aZ)))))),_,r229,rfl,h,le231,hS⟩
                              · replace h:=iF h228 h
                                refine cskip ?_
                                refine xl ?_
                                exact ⟨_,_,rfl,(aK50 (aK50 (aK20 (aK10 (aK6 (aO2 aZ)))))),_,r218.2.2,rfl,h,Le.r,hS⟩
                            · rintro _ t w29 ⟨μ23,i227,rfl,h,le232,hS⟩
                              unfold vf_step_j6 at h
                              refine nrm (mK50 (mK50 (mK20 (mK10 (mK6 (mO2 mz)))))) ?_
                              refine xn ?_
                              refine cseq ?_
                              refine creg ?_
                              refine wl (s_move (et d0) (dt (q100 (q30 p8))) ?_)
                              refine wl (s_move (et d8) (dt (q100 (q30 p9))) ?_)
                              refine wl (s_bsl Tryz.underlying38 ti3 (Parts.s (et (k100 (k30 d9))) rfl Parts.z) rfl rfl hS ?_); clear hS; intro b233 w30 hb234 hS; refine pu (dt (q100 (q40 p0))) ?_
                              obtain ⟨μ24,le236,m235,hS⟩:=Sep.frzBlk (l:=([r218.1]:List Int)) hS (Rw.one (α:=Int) rfl) (Nat.le_of_ble_eq_true rfl)
                              replace h:=bI h; obtain ⟨r237,g238,h⟩:=h
                              replace hS:=hS.bg (Bg.s (Bg.s (Bg.s Bg.z)))
                              replace hS:=hS.bg (Bg.s Bg.z)
                              refine wl (s_callv isfn62 ef (e1 (et (k100 (k30 d8))) (e1 (et (k100 (k40 d0))) e0)) (vf_want_w (hg.t (le196.t (le216.t (le220.t (le226.t (le232.t le236)))))) (m223.up (le226.t (le232.t le236))) m235 g238 hS) ?_)
                              rintro _ w31 ⟨μ25,v240,cs241,rfl,le239,hS,m242⟩
                              refine pu (dt (q100 (q40 p1))) ?_
                              refine wnil ?_
                              refine xn ?_
                              refine creg ?_
                              refine wl (s_move (et d0) (dt (q100 (q40 p2))) ?_)
                              refine wl (s_move (et d6) (dt (q100 (q40 p3))) ?_)
                              replace h:=bI h; obtain ⟨r243,g244,h⟩:=h
                              replace hS:=hS.bg (Bg.s Bg.z)
                              replace hS:=hS.bg (Bg.s Bg.z)
                              refine wl (s_callv isfn61 ef (e1 (et (k100 (k40 d2))) (e1 (et (k100 (k40 d3))) e0)) (vf_push_w (hg.t (le196.t (le216.t (le220.t (le226.t (le232.t (le236.t le239))))))) m242 g244 hS) ?_)
                              rintro _ w32 ⟨μ26,v246,cs247,rfl,le245,hS,m248⟩
                              refine pu (dt (q100 (q40 p4))) ?_
                              refine wnil ?_
                              refine (fun h=>bn (xl h)) ?_
                              replace hS:=hS.bg (Bg.s (Bg.s (Bg.s (Bg.s Bg.z))))
                              replace hS:=hS.bg (Bg.s (Bg.s Bg.z))
                              replace hS:=hS.bg (Bg.s (Bg.s (Bg.s (Bg.s Bg.z))))
                              replace hS:=hS.bg (Bg.s (Bg.s (Bg.s (Bg.s Bg.z))))
                              replace hS:=hS.bg (Bg.s (Bg.s (Bg.s (Bg.s Bg.z))))
                              exact ⟨_,_,rfl,(aK4 (aO1 (aK3 (aO1 (aK2 (aO50 (aO50 (aO50 (aO20 (aO10 (aO2 aZ))))))))))),_,r243.2,todo_24,v25,cs26,r243.1,v246,cs247,has_32,v33,cs34,at_18,es20,c21,bs22,rfl,h,(le196.t (le216.t (le220.t (le226.t (le232.t (le236.t (le239.t le245))))))),hS,(m27.up (le196.t (le216.t (le220.t (le226.t (le232.t (le236.t (le239.t le245)))))))),m248,(m35.up (le196.t (le216.t (le220.t (le226.t (le232.t (le236.t (le239.t le245)))))))),(m23.up (le196.t (le216.t (le220.t (le226.t (le232.t (le236.t (le239.t le245))))))))⟩
                        · replace h:=iF h217 h
                          refine cseq ?_
                          refine ccutE (rg 146 6) (by decide) (fun m w=>∃ (μx:M) (b249:Bool),m=(yK50 (yK50 (yK20 (yK20 (yK5 (.i (.bool b249)::(yO6 146 [])))))))∧vf_step_j7 fu chec_2 p_2 u_8 at_18 todo_24 stac_28 has_32 err_36 b249=some r∧Le μ19 μx∧Sq μx w0 w (.blk b1 94 [.pointer (some ⟨b3,o4,none⟩),.pointer (some ⟨b9,o10,none⟩),.map (some b19),v25,v29,v33,.int .i64 err_36]::.map b19 es20 c21::.row v25 3 1 todo_24.length cs26::.row v29 3 1 stac_28.length cs30::.row v33 4 1 has_32.length cs34::.blk b50 43 [.int .i64 p_2.Op,.int .i64 p_2.A,.int .i64 p_2.N]::(bitsRes 4 bs22++rsF))) (by rintro _ _ ⟨_,_,rfl,_⟩; rfl) ?_ ?_
                          · refine creg ?_
                            refine wl (s_move (et d7) (dt (q100 (q40 p6))) ?_)
                            refine wl (s_geq (et (k100 (k40 d6))) ec (dt (q100 (q40 p7))) ?_)
                            refine wl (s_move (et (k100 (k40 d7))) (dt (q100 (q40 p8))) ?_)
                            refine wspd (k100 (k40 d8)) (q100 (q40 p8)) (q100 (q40 p8)) (fun h250=>?_) (fun h250=>?_)
                            · replace h:=iT h250 h
                              refine wy rfl (k100 (k40 d8)) (s_move (et d7) (dt (q100 (q40 p9))) ?_)
                              refine wy rfl (k100 (k40 d8)) (s_leq (et (k100 (k40 d9))) ec (dt (q100 (q50 p0))) ?_)
                              refine wl (s_pickt (et (k100 (k40 d8))) (et (k100 (k50 d0))) (dt (q100 (q50 p1))) ?_)
                              refine wl (s_assign (et (k100 (k50 d1))) (dt (q100 (q40 p5))) ?_)
                              refine wnil ?_
                              refine xl ?_
                              exact ⟨_,_,rfl,(aK50 (aK50 (aK20 (aK20 (aK5 (aI (aO6 aZ))))))),_,(decide (p_2.Op≤18)),rfl,h,Le.r,hS⟩
                            · replace h:=iF h250 h
                              refine wn rfl (k100 (k40 d8)) rfl (dt (q100 (q40 p9))) ?_
                              refine wn rfl (k100 (k40 d8)) rfl (dt (q100 (q50 p0))) ?_
                              refine wl (s_pickf (et (k100 (k40 d8))) ec (dt (q100 (q50 p1))) ?_)
                              refine wl (s_assign (et (k100 (k50 d1))) (dt (q100 (q40 p5))) ?_)
                              refine wnil ?_
                              refine xl ?_
                              exact ⟨_,_,rfl,(aK50 (aK50 (aK20 (aK20 (aK5 (aI (aO6 aZ))))))),_,false,rfl,h,Le.r,hS⟩
                          · rintro _ t w33 ⟨μ27,b249,rfl,h,le251,hS⟩
                            unfold vf_step_j7 at h
                            refine nrm (mK50 (mK50 (mK20 (mK20 (mK5 (mi (mO6 mz))))))) ?_
                            refine xn ?_
                            refine cifb (et (k100 (k40 d5))) (fun h252=>?_) (fun h252=>?_)
                            · replace h:=iT h252 h
                              refine cseq ?_
                              refine creg ?_
                              refine wl (s_move (et d0) (dt (q100 (q50 p2))) ?_)
                              refine wl (s_move (et d5) (dt (q100 (q50 p3))) ?_)
                              refine wl (s_move (et d5) (dt (q100 (q50 p4))) ?_)
                              refine wl (s_bsl Tryz.underlying38 ti3 (Parts.s (et (k100 (k50 d3))) rfl (Parts.s (et (k100 (k50 d4))) rfl Parts.z)) rfl rfl hS ?_); clear hS; intro b253 w34 hb254 hS; refine pu (dt (q100 (q50 p5))) ?_
                              obtain ⟨μ28,le256,m255,hS⟩:=Sep.frzBlk (l:=([1,1]:List Int)) hS (Rw.cons (α:=Int) (cs:=[.int .i64 1]) rfl (Rw.cons (α:=Int) (cs:=[.int .i64 1]) rfl Rw.nil)) (Nat.le_of_ble_eq_true rfl)
                              replace h:=bI h; obtain ⟨r257,g258,h⟩:=h
                              replace hS:=hS.bg (Bg.s (Bg.s (Bg.s Bg.z)))
                              replace hS:=hS.bg (Bg.s Bg.z)
                              refine wl (s_callv isfn62 ef (e1 (et (k100 (k50 d2))) (e1 (et (k100 (k50 d5))) e0)) (vf_want_w (hg.t (le196.t (le216.t (le251.t le256)))) (m31.up (le196.t (le216.t (le251.t le256)))) m255 g258 hS) ?_)
                              rintro _ w35 ⟨μ29,v260,cs261,rfl,le259,hS,m262⟩
                              refine pu (dt (q100 (q50 p6))) ?_
                              refine wnil ?_
                              refine xn ?_
                              refine creg ?_
                              refine wl (s_move (et d0) (dt (q100 (q50 p7))) ?_)
                              refine wl (s_move (et d6) (dt (q100 (q50 p8))) ?_)
                              replace h:=bI h; obtain ⟨r263,g264,h⟩:=h
                              replace hS:=hS.bg (Bg.s Bg.z)
                              replace hS:=hS.bg (Bg.s Bg.z)
                              refine wl (s_callv isfn61 ef (e1 (et (k100 (k50 d7))) (e1 (et (k100 (k50 d8))) e0)) (vf_push_w (hg.t (le196.t (le216.t (le251.t (le256.t le259))))) m262 g264 hS) ?_)
                              rintro _ w36 ⟨μ30,v266,cs267,rfl,le265,hS,m268⟩
                              refine pu (dt (q100 (q50 p9))) ?_
                              refine wnil ?_
                              refine (fun h=>bn (xl h)) ?_
                              replace hS:=hS.drop (Rm.s (Rm.s (Rm.s (Rm.s (Rm.s Rm.z)))))
                              replace hS:=hS.bg (Bg.s (Bg.s (Bg.s (Bg.s Bg.z))))
                              replace hS:=hS.bg (Bg.s (Bg.s Bg.z))
                              replace hS:=hS.bg (Bg.s (Bg.s (Bg.s (Bg.s Bg.z))))
                              replace hS:=hS.bg (Bg.s (Bg.s (Bg.s (Bg.s Bg.z))))
                              replace hS:=hS.bg (Bg.s (Bg.s (Bg.s (Bg.s Bg.z))))
                              exact ⟨_,_,rfl,(aK4 (aO1 (aK3 (aO1 (aK2 (aO50 (aO50 (aO50 (aO20 (aO10 (aO2 aZ))))))))))),_,r263.2,todo_24,v25,cs26,r263.1,v266,cs267,has_32,v33,cs34,at_18,es20,c21,bs22,rfl,h,(le196.t (le216.t (le251.t (le256.t (le259.t le265))))),hS,(m27.up (le196.t (le216.t (le251.t (le256.t (le259.t le265)))))),m268,(m35.up (le196.t (le216.t (le251.t (le256.t (le259.t le265)))))),(m23.up (le196.t (le216.t (le251.t (le256.t (le259.t le265))))))⟩
                            · replace h:=iF h252 h
                              refine cseq ?_
                              refine ccutE (rg 161 6) (by decide) (fun m w=>∃ (μx:M) (b269:Bool),m=(yK50 (yK50 (yK50 (yK10 (.i (.bool b269)::(yO6 161 []))))))∧vf_step_j8 fu chec_2 p_2 u_8 at_18 todo_24 stac_28 has_32 err_36 b269=some r∧Le μ27 μx∧Sq μx w0 w (.blk b1 94 [.pointer (some ⟨b3,o4,none⟩),.pointer (some ⟨b9,o10,none⟩),.map (some b19),v25,v29,v33,.int .i64 err_36]::.map b19 es20 c21::.row v25 3 1 todo_24.length cs26::.row v29 3 1 stac_28.length cs30::.row v33 4 1 has_32.length cs34::.blk b50 43 [.int .i64 p_2.Op,.int .i64 p_2.A,.int .i64 p_2.N]::(bitsRes 4 bs22++rsF))) (by rintro _ _ ⟨_,_,rfl,_⟩; rfl) ?_ ?_
                              · refine creg ?_
                                refine wl (s_move (et d7) (dt (q100 (q60 p1))) ?_)
                                refine wl (s_eqi (et (k100 (k60 d1))) ec (dt (q100 (q60 p2))) ?_)
                                refine wl (s_move (et (k100 (k60 d2))) (dt (q100 (q60 p3))) ?_)
                                refine wspd (k100 (k60 d3)) (q100 (q60 p3)) (q100 (q60 p3)) (fun h270=>?_) (fun h270=>?_)
                                · replace h:=iT h270 h
                                  refine wn rfl (k100 (k60 d3)) rfl (dt (q100 (q60 p4))) ?_
                                  refine wn rfl (k100 (k60 d3)) rfl (dt (q100 (q60 p5))) ?_
                                  refine wl (s_pickt (et (k100 (k60 d3))) ec (dt (q100 (q60 p6))) ?_)
                                  refine wl (s_assign (et (k100 (k60 d6))) (dt (q100 (q60 p0))) ?_)
                                  refine wnil ?_
                                  refine xl ?_
                                  exact ⟨_,_,rfl,(aK50 (aK50 (aK50 (aK10 (aI (aO6 aZ)))))),_,true,rfl,h,Le.r,hS⟩
                                · replace h:=iF h270 h
                                  refine wy rfl (k100 (k60 d3)) (s_move (et d7) (dt (q100 (q60 p4))) ?_)
                                  refine wy rfl (k100 (k60 d3)) (s_eqi (et (k100 (k60 d4))) ec (dt (q100 (q60 p5))) ?_)
                                  refine wl (s_pickf (et (k100 (k60 d3))) (et (k100 (k60 d5))) (dt (q100 (q60 p6))) ?_)
                                  refine wl (s_assign (et (k100 (k60 d6))) (dt (q100 (q60 p0))) ?_)
                                  refine wnil ?_
                                  refine xl ?_
                                  exact ⟨_,_,rfl,(aK50 (aK50 (aK50 (aK10 (aI (aO6 aZ)))))),_,(decide (p_2.Op=20)),rfl,h,Le.r,hS⟩
                              · rintro _ t w37 ⟨μ31,b269,rfl,h,le271,hS⟩
                                unfold vf_step_j8 at h
                                refine nrm (mK50 (mK50 (mK50 (mK10 (mi (mO6 mz)))))) ?_
                                refine xn ?_
                                refine cifb (et (k100 (k60 d0))) (fun h272=>?_) (fun h272=>?_)
                                · replace h:=iT h272 h
                                  refine cseq ?_
                                  refine creg ?_
                                  refine wl (s_move (et d0) (dt (q100 (q60 p7))) ?_)
                                  refine wl (s_move (et d6) (dt (q100 (q60 p8))) ?_)
                                  refine wl (s_move (et d6) (dt (q100 (q60 p9))) ?_)
                                  refine wl (s_bsl Tryz.underlying38 ti3 (Parts.s (et (k100 (k60 d8))) rfl (Parts.s (et (k100 (k60 d9))) rfl Parts.z)) rfl rfl hS ?_); clear hS; intro b273 w38 hb274 hS; refine pu (dt (q100 (q70 p0))) ?_
                                  obtain ⟨μ32,le276,m275,hS⟩:=Sep.frzBlk (l:=([2,2]:List Int)) hS (Rw.cons (α:=Int) (cs:=[.int .i64 2]) rfl (Rw.cons (α:=Int) (cs:=[.int .i64 2]) rfl Rw.nil)) (Nat.le_of_ble_eq_true rfl)
                                  replace h:=bI h; obtain ⟨r277,g278,h⟩:=h
                                  replace hS:=hS.bg (Bg.s (Bg.s (Bg.s Bg.z)))
                                  replace hS:=hS.bg (Bg.s Bg.z)
                                  refine wl (s_callv isfn62 ef (e1 (et (k100 (k60 d7))) (e1 (et (k100 (k70 d0))) e0)) (vf_want_w (hg.t (le196.t (le216.t (le251.t (le271.t le276))))) (m31.up (le196.t (le216.t (le251.t (le271.t le276))))) m275 g278 hS) ?_)
                                  rintro _ w39 ⟨μ33,v280,cs281,rfl,le279,hS,m282⟩
                                  refine pu (dt (q100 (q70 p1))) ?_
                                  refine wnil ?_
                                  refine xn ?_
                                  refine creg ?_
                                  refine wl (s_move (et d0) (dt (q100 (q70 p2))) ?_)
                                  refine wl (s_move (et d6) (dt (q100 (q70 p3))) ?_)
                                  replace h:=bI h; obtain ⟨r283,g284,h⟩:=h
                                  replace hS:=hS.bg (Bg.s Bg.z)
                                  replace hS:=hS.bg (Bg.s Bg.z)
                                  refine wl (s_callv isfn61 ef (e1 (et (k100 (k70 d2))) (e1 (et (k100 (k70 d3))) e0)) (vf_push_w (hg.t (le196.t (le216.t (le251.t (le271.t (le276.t le279)))))) m282 g284 hS) ?_)
                                  rintro _ w40 ⟨μ34,v286,cs287,rfl,le285,hS,m288⟩
                                  refine pu (dt (q100 (q70 p4))) ?_
                                  refine wnil ?_
                                  refine (fun h=>bn (xl h)) ?_
                                  replace hS:=hS.drop (Rm.s (Rm.s (Rm.s (Rm.s (Rm.s Rm.z)))))
                                  replace hS:=hS.bg (Bg.s (Bg.s (Bg.s (Bg.s Bg.z))))
                                  replace hS:=hS.bg (Bg.s (Bg.s Bg.z))
                                  replace hS:=hS.bg (Bg.s (Bg.s (Bg.s (Bg.s Bg.z))))
                                  replace hS:=hS.bg (Bg.s (Bg.s (Bg.s (Bg.s Bg.z))))
                                  replace hS:=hS.bg (Bg.s (Bg.s (Bg.s (Bg.s Bg.z))))
                                  exact ⟨_,_,rfl,(aK4 (aO1 (aK3 (aO1 (aK2 (aO50 (aO50 (aO50 (aO20 (aO10 (aO2 aZ))))))))))),_,r283.2,todo_24,v25,cs26,r283.1,v286,cs287,has_32,v33,cs34,at_18,es20,c21,bs22,rfl,h,(le196.t (le216.t (le251.t (le271.t (le276.t (le279.t le285)))))),hS,(m27.up (le196.t (le216.t (le251.t (le271.t (le276.t (le279.t le285))))))),m288,(m35.up (le196.t (le216.t (le251.t (le271.t (le276.t (le279.t le285))))))),(m23.up (le196.t (le216.t (le251.t (le271.t (le276.t (le279.t le285)))))))⟩
                                · replace h:=iF h272 h
                                  refine cseq ?_
                                  refine creg ?_
                                  refine wl (s_move (et d7) (dt (q100 (q70 p6))) ?_)
                                  refine wl (s_eqi (et (k100 (k70 d6))) ec (dt (q100 (q70 p7))) ?_)
                                  refine wl (s_assign (et (k100 (k70 d7))) (dt (q100 (q70 p5))) ?_)
                                  refine wnil ?_
                                  refine xn ?_
                                  refine cifd (et (k100 (k70 d5))) (fun h289=>?_) (fun h289=>?_)
                                  · replace h:=iT h289 h
                                    refine cseq ?_
                                    refine creg ?_
                                    refine wl (s_move (et d0) (dt (q100 (q70 p8))) ?_)
                                    refine wl (s_fa fa43_1 (et d3) rfl (dt (q100 (q70 p9))) ?_)
                                    refine wl (s_load ti3 (et (k100 (k70 d9))) ((hS.blk d5).cell d1) (dt (q100 (q80 p0))) ?_)
                                    replace h:=bI h; obtain ⟨r290,g291,h⟩:=h
                                    replace hS:=hS.bg (Bg.s (Bg.s (Bg.s (Bg.s Bg.z))))
                                    replace hS:=hS.bg (Bg.s (Bg.s (Bg.s (Bg.s Bg.z))))
                                    replace hS:=hS.bg (Bg.s (Bg.s (Bg.s (Bg.s Bg.z))))
                                    replace hS:=hS.bg (Bg.s (Bg.s (Bg.s (Bg.s Bg.z))))
                                    replace hS:=hS.bg (Bg.s (Bg.s (Bg.s (Bg.s Bg.z))))
                                    replace hS:=Sep.mOut (a:=[_,_,_,_,_]) (p:=[_]) (M:=bitsRes 4 bs22) (R:=rsF) hS
                                    refine wl (s_callv isfn37 ef (e1 (et (k100 (k70 d8))) (e1 (et (k100 (k80 d0))) e0)) (vf_to_w (hg.t (le196.t (le216.t (le251.t le271)))) (m6.up (le196.t (le216.t (le251.t le271)))) (m7.up (le196.t (le216.t (le251.t le271)))) (m13.up (le196.t (le216.t (le251.t le271)))) (m16.up (le196.t (le216.t (le251.t le271)))) (m17.up (le196.t (le216.t (le251.t le271)))) (m23.up (le196.t (le216.t (le251.t le271)))) (m27.up (le196.t (le216.t (le251.t le271)))) (m31.up (le196.t (le216.t (le251.t le271)))) (m35.up (le196.t (le216.t (le251.t le271)))) g291 hS) ?_)
                                    rintro _ w41 ⟨μ35,es293,c294,bs295,v297,cs298,v300,cs301,v303,cs304,rfl,le292,hS,m296,m299,m302,m305⟩
                                    replace hS:=Sep.mOut (a:=[_,_,_,_,_]) (p:=bitsRes 4 bs295) (M:=[_]) (R:=rsF) hS
                                    refine pu (dt (q100 (q80 p1))) ?_
                                    refine wnil ?_
                                    refine xn ?_
                                    refine cseq ?_
                                    refine creg ?_
                                    refine wl (s_assign ec (dt p4) ?_)
                                    refine wnil ?_
                                    refine xn ?_
                                    refine cret ?_
                                    refine (fun h=>br (xr (xr h))) ?_
                                    obtain rfl:=oI h
                                    refine ret1 rfl d4 ?_
                                    replace hS:=hS.drop (Rm.s (Rm.s (Rm.s (Rm.s (Rm.s Rm.z)))))
                                    replace hS:Sq μ35 w0 _ (.blk b1 94 [.pointer (some ⟨b3,o4,none⟩),.pointer (some ⟨b9,o10,none⟩),.map (some b19),v297,v300,v303,.int .i64 r290.2.2.2.2]::.map b19 es293 c294::.row v297 3 1 r290.2.1.length cs298::.row v300 3 1 r290.2.2.1.length cs301::.row v303 4 1 r290.2.2.2.1.length cs304::(bitsRes 4 bs295++rsF)):=hS
                                    exact ⟨_,es293,c294,bs295,v297,cs298,v300,cs301,v303,cs304,rfl,(le196.t (le216.t (le251.t (le271.t le292)))),hS,m296,m299,m302,m305⟩
                                  · replace h:=iF h289 h
                                    refine cseq ?_
                                    refine creg ?_
                                    refine wl (s_move (et d7) (dt (q100 (q80 p3))) ?_)
                                    refine wl (s_eqi (et (k100 (k80 d3))) ec (dt (q100 (q80 p4))) ?_)
                                    refine wl (s_assign (et (k100 (k80 d4))) (dt (q100 (q80 p2))) ?_)
                                    refine wnil ?_
                                    refine xn ?_
                                    refine cifd (et (k100 (k80 d2))) (fun h306=>?_) (fun h306=>?_)
                                    · replace h:=iT h306 h
                                      refine cseq ?_
                                      refine creg ?_
                                      refine wl (s_move (et d0) (dt (q100 (q80 p5))) ?_)
                                      refine wl (s_move (et d6) (dt (q100 (q80 p6))) ?_)
                                      refine wl (s_bsl Tryz.underlying38 ti3 (Parts.s (et (k100 (k80 d6))) rfl Parts.z) rfl rfl hS ?_); clear hS; intro b307 w42 hb308 hS; refine pu (dt (q100 (q80 p7))) ?_
                                      obtain ⟨μ36,le310,m309,hS⟩:=Sep.frzBlk (l:=([2]:List Int)) hS (Rw.one (α:=Int) rfl) (Nat.le_of_ble_eq_true rfl)
                                      replace h:=bI h; obtain ⟨r311,g312,h⟩:=h
                                      replace hS:=hS.bg (Bg.s (Bg.s (Bg.s Bg.z)))
                                      replace hS:=hS.bg (Bg.s Bg.z)
                                      refine wl (s_callv isfn62 ef (e1 (et (k100 (k80 d5))) (e1 (et (k100 (k80 d7))) e0)) (vf_want_w (hg.t (le196.t (le216.t (le251.t (le271.t le310))))) (m31.up (le196.t (le216.t (le251.t (le271.t le310))))) m309 g312 hS) ?_)
                                      rintro _ w43 ⟨μ37,v314,cs315,rfl,le313,hS,m316⟩
                                      refine pu (dt (q100 (q80 p8))) ?_
                                      refine wnil ?_
                                      refine xn ?_
                                      refine creg ?_
                                      refine wl (s_move (et d0) (dt (q100 (q80 p9))) ?_)
                                      refine wl (s_fa fa43_1 (et d3) rfl (dt (q100 (q90 p0))) ?_)
                                      refine wl (s_load ti3 (et (k100 (k90 d0))) ((hS.blk d5).cell d1) (dt (q100 (q90 p1))) ?_)
                                      replace h:=bI h; obtain ⟨r317,g318,h⟩:=h
                                      replace hS:=hS.bg (Bg.s (Bg.s (Bg.s (Bg.s Bg.z))))
                                      replace hS:=hS.bg (Bg.s (Bg.s Bg.z))
                                      replace hS:=hS.bg (Bg.s (Bg.s (Bg.s (Bg.s Bg.z))))
                                      replace hS:=hS.bg (Bg.s (Bg.s (Bg.s (Bg.s Bg.z))))
                                      replace hS:=hS.bg (Bg.s (Bg.s (Bg.s (Bg.s Bg.z))))
                                      replace hS:=Sep.mOut (a:=[_,_,_,_,_]) (p:=[_]) (M:=bitsRes 4 bs22) (R:=rsF) hS
                                      refine wl (s_callv isfn37 ef (e1 (et (k100 (k80 d9))) (e1 (et (k100 (k90 d1))) e0)) (vf_to_w (hg.t (le196.t (le216.t (le251.t (le271.t (le310.t le313)))))) (m6.up (le196.t (le216.t (le251.t (le271.t (le310.t le313)))))) (m7.up (le196.t (le216.t (le251.t (le271.t (le310.t le313)))))) (m13.up (le196.t (le216.t (le251.t (le271.t (le310.t le313)))))) (m16.up (le196.t (le216.t (le251.t (le271.t (le310.t le313)))))) (m17.up (le196.t (le216.t (le251.t (le271.t (le310.t le313)))))) (m23.up (le196.t (le216.t (le251.t (le271.t (le310.t le313)))))) (m27.up (le196.t (le216.t (le251.t (le271.t (le310.t le313)))))) m316 (m35.up (le196.t (le216.t (le251.t (le271.t (le310.t le313)))))) g318 hS) ?_)
                                      rintro _ w44 ⟨μ38,es320,c321,bs322,v324,cs325,v327,cs328,v330,cs331,rfl,le319,hS,m323,m326,m329,m332⟩
                                      replace hS:=Sep.mOut (a:=[_,_,_,_,_]) (p:=bitsRes 4 bs322) (M:=[_]) (R:=rsF) hS
                                      refine pu (dt (q100 (q90 p2))) ?_
                                      refine wnil ?_
                                      refine (fun h=>bn (xl h)) ?_
                                      replace hS:=hS.drop (Rm.s (Rm.s (Rm.s (Rm.s (Rm.s Rm.z)))))
                                      exact ⟨_,_,rfl,(aK4 (aO1 (aK3 (aO1 (aK2 (aO50 (aO50 (aO50 (aO20 (aO10 (aO2 aZ))))))))))),_,r317.2.2.2.2,r317.2.1,v324,cs325,r317.2.2.1,v327,cs328,r317.2.2.2.1,v330,cs331,r317.1,es320,c321,bs322,rfl,h,(le196.t (le216.t (le251.t (le271.t (le310.t (le313.t le319)))))),hS,m326,m329,m332,m323⟩
                                    · replace h:=iF h306 h
                                      refine cseq ?_
                                      refine creg ?_
                                      refine wl (s_move (et d0) (dt (q10 p1)) ?_)
                                      refine wl (s_loads ti43 (et d3) (hS.blk d5).cells rfl (dt (q10 p2)) ?_)
                                      replace h:=bI h; obtain ⟨r333,g334,h⟩:=h
                                      replace hS:=hS.bg (Bg.s (Bg.s (Bg.s (Bg.s Bg.z))))
                                      replace hS:=hS.bg (Bg.s (Bg.s (Bg.s (Bg.s Bg.z))))
                                      replace hS:=hS.bg (Bg.s (Bg.s (Bg.s (Bg.s Bg.z))))
                                      replace hS:=hS.bg (Bg.s (Bg.s (Bg.s (Bg.s Bg.z))))
                                      replace hS:=hS.bg (Bg.s (Bg.s (Bg.s (Bg.s Bg.z))))
                                      replace hS:=Sep.mOut (a:=[_,_,_,_,_]) (p:=[_]) (M:=bitsRes 4 bs22) (R:=rsF) hS
                                      refine wl (s_callv isfn64 ef (e1 (et (k10 d1)) (e1 (et (k10 d2)) e0)) (vf_special_w (hg.t (le196.t (le216.t (le251.t le271)))) (m6.up (le196.t (le216.t (le251.t le271)))) (m7.up (le196.t (le216.t (le251.t le271)))) (m13.up (le196.t (le216.t (le251.t le271)))) (m16.up (le196.t (le216.t (le251.t le271)))) (m17.up (le196.t (le216.t (le251.t le271)))) (m23.up (le196.t (le216.t (le251.t le271)))) (m27.up (le196.t (le216.t (le251.t le271)))) (m31.up (le196.t (le216.t (le251.t le271)))) (m35.up (le196.t (le216.t (le251.t le271)))) g334 hS) ?_)
                                      rintro _ w45 ⟨μ39,es336,c337,bs338,v340,cs341,v343,cs344,v346,cs347,rfl,le335,hS,m339,m342,m345,m348⟩
                                      replace hS:=Sep.mOut (a:=[_,_,_,_,_]) (p:=bitsRes 4 bs338) (M:=[_]) (R:=rsF) hS
                                      refine pu (dt (q10 p3)) ?_
                                      refine wl (s_assign (et (k10 d3)) (dt p4) ?_)
                                      refine wnil ?_
                                      refine xn ?_
                                      refine cret ?_
                                      refine (fun h=>br (xr (xr h))) ?_
                                      obtain rfl:=oI h
                                      refine ret1 rfl d4 ?_
                                      replace hS:=hS.drop (Rm.s (Rm.s (Rm.s (Rm.s (Rm.s Rm.z)))))
                                      replace hS:Sq μ39 w0 _ (.blk b1 94 [.pointer (some ⟨b3,o4,none⟩),.pointer (some ⟨b9,o10,none⟩),.map (some b19),v340,v343,v346,.int .i64 r333.2.2.2.2.2]::.map b19 es336 c337::.row v340 3 1 r333.2.2.1.length cs341::.row v343 3 1 r333.2.2.2.1.length cs344::.row v346 4 1 r333.2.2.2.2.1.length cs347::(bitsRes 4 bs338++rsF)):=hS
                                      exact ⟨_,es336,c337,bs338,v340,cs341,v343,cs344,v346,cs347,rfl,(le196.t (le216.t (le251.t (le271.t le335)))),hS,m339,m342,m345,m348⟩
  · rintro _ t w46 ⟨μ40,i52,l55,v53,cs54,l59,v57,cs58,l63,v61,cs62,l68,es65,c66,bs67,rfl,h,le349,hS,m350,m351,m352,m353⟩
    unfold vf_step_j1 at h
    refine nrm (mK4 (mO1 (mK3 (mO1 (mK2 (mO50 (mO50 (mO50 (mO20 (mO10 (mO2 mz))))))))))) ?_
    refine xn ?_
    refine cseq ?_
    refine creg ?_
    refine wl (s_assign ec (dt p4) ?_)
    refine wnil ?_
    refine xn ?_
    refine cret ?_
    obtain rfl:=oI h
    refine ret1 rfl d4 ?_
    replace hS:Sq μ40 w0 _ (.blk b1 94 [.pointer (some ⟨b3,o4,none⟩),.pointer (some ⟨b9,o10,none⟩),.map (some b19),v53,v57,v61,.int .i64 i52]::.map b19 es65 c66::.row v53 3 1 l55.length cs54::.row v57 3 1 l59.length cs58::.row v61 4 1 l63.length cs62::(bitsRes 4 bs67++rsF)):=hS
    exact ⟨_,es65,c66,bs67,v53,cs54,v57,cs58,v61,cs62,rfl,le349,hS,m353,m350,m351,m352⟩
theorem vf_code_w {fu:Nat} {μ0:M} {w0 w:World} {rsF:List Res} (hg:Le Gm μ0) {p_1:TVc} {b1:Nat} {o2:Nat} {v3:Value} {p_2:Int} {r:TWhere} (m4:Np μ0 v3 p_1.m) (m5:At μ0 b1 o2 [v3]) (h:vf_code fu p_1 p_2=some r) (hS:Sq μ0 w0 w (rsF)):CallsV Tryz.prog 23 [.pointer (some ⟨b1,o2,none⟩),.int .i64 p_2] w (fun v w'=>∃ (μ':M) ,v=.agg ⟨[.int .i64 r.Err,.int .i64 r.Unit,.int .i64 r.At]⟩∧Le μ0 μ'∧Sq μ' w0 w' (rsF)):=by
  unfold vf_code at h
  refine enter Tryz.func23 rfl (frm:=[_,_,_,_,_,_,_,_,_,_,_,_,_,_,_,_,_,_,_,_,_,_,_,_,_,_,_,_,_,_,_,_,_,_,_,_,_,_,_,_,_,_,_,_,_,_,_,_,_,_,_,_,_,_,_,_,_,_,_,_,_,_,_,_,_,_,_,_,_,_,_,_,_,_,_,_,_,_,_,_,_,_,_,_,_,_,_,_,_,_,_,_,_,_,_,_,_,_,_,_,_,_,_,_,_,_]) rfl ?_
  refine cseq ?_
  refine creg ?_
  refine wl (s_alloc ti29 hS ?_); clear hS; intro b6 w1 hb7 hS; refine pu (dt p4) ?_
  refine wnil ?_
  refine xn ?_
  refine cseq ?_
  refine creg ?_
  refine wl (s_move (et d0) (dt p9) ?_)
  refine wl (s_nilck (et d9) (dt (q10 p0)) ?_)
  refine wl (s_fa fa75_0 (et (k10 d0)) rfl (dt (q10 p1)) ?_)
  refine wl (s_load ti72 (et (k10 d1)) ((m5 _ hS.a).one d0) (dt (q10 p2)) ?_)
  replace h:=bI h; obtain ⟨x8,g9,h⟩:=h
  obtain ⟨b10,o11,cs12,rfl,f13,m14⟩:=Np.get m4 g9
  obtain ⟨a15,c16,a18,c19,rfl,m17,m20⟩:=m14
  refine wl (s_nilck (et (k10 d2)) (dt (q10 p3)) ?_)
  refine wl (s_fa fa25_1 (et (k10 d3)) rfl (dt (q10 p4)) ?_)
  refine wl (s_load ti23 (et (k10 d4)) ((f13 _ hS.a).one d1) (dt (q10 p5)) ?_)
  refine wl (s_move (et d1) (dt (q10 p6)) ?_)
  replace h:=bI h; obtain ⟨x21,g22,h⟩:=h
  obtain ⟨b23,o24,cs25,e26,f27,m28⟩:=SlR.elem m20 g22
  obtain ⟨a29,c30,a32,c33,rfl,m31,m34⟩:=m28
  refine wl (s_iax Tryz.underlying23 ti41 (et (k10 d5)) (et (k10 d6)) e26 (dt (q10 p7)) ?_)
  refine wl (s_assign (et (k10 d7)) (dt p5) ?_)
  refine wnil ?_
  refine xn ?_
  refine cseq ?_
  refine creg ?_
  refine wl (s_move (et d0) (dt (q10 p8)) ?_)
  refine wl (s_move (et d5) (dt (q10 p9)) ?_)
  refine wl (s_mkmap hS ?_); clear hS; intro b35 w2 hb36 hS; refine pu (dt (q20 p0)) ?_
  replace hS:Sq μ0 w0 _ (.map b35 [] 0::.blk b6 29 [.int .i64 0,.int .i64 0,.int .i64 0]::(bitsRes 4 []++rsF)):=hS
  refine wl (s_build ti94 pl94 (Fl.o rfl (et (k10 d8)) rfl rfl p0 (Fl.o rfl (et (k10 d9)) rfl rfl p1 (Fl.o rfl (et (k20 d0)) rfl rfl p2 Fl.z))) (dt (q20 p1)) ?_)
  refine wl (s_box (et (k20 d1)) rfl hS ?_); clear hS; intro b37 w3 hb38 hS; refine pu (dt (q20 p2)) ?_
  refine wl (s_assign (et (k20 d2)) (dt p6) ?_)
  refine wnil ?_
  refine xn ?_
  refine cseq ?_
  refine creg ?_
  refine wl (s_move (et d6) (dt (q20 p3)) ?_)
  refine wl (s_move (et d5) (dt (q20 p4)) ?_)
  refine wl (s_nilck (et (k20 d4)) (dt (q20 p5)) ?_)
  refine wl (s_fa fa41_2 (et (k20 d5)) rfl (dt (q20 p6)) ?_)
  refine wl (s_load ti38 (et (k20 d6)) ((f27 _ hS.a).one d2) (dt (q20 p7)) ?_)
  refine wl (s_lensl Tryz.underlying38 (et (k20 d7)) (dt (q20 p8)) ?_)
  replace h:=bI h; obtain ⟨k39,g40,h⟩:=h
  have m42:Rw μ0 (List.replicate k39 (.bool false)) ((List.replicate k39 (false:Bool)):List Bool):=rw_rep (α:=Bool) (by intro; exact rfl) k39
  refine wl (s_mkslice Tryz.underlying90 ti4 (by decide) (et (k20 d8)) (et (k20 d8)) g40 hS ?_); clear hS; intro b41 w4 hS; refine pu (dt (q20 p9)) ?_
  replace hS:Sq μ0 w0 w4 (.row (.slice (some ⟨b41,0,none⟩) k39 k39) 4 1 (List.replicate k39 (false:Bool)).length (List.replicate k39 (.bool false))::.blk b37 94 [.pointer (some ⟨b1,o2,none⟩),.pointer (some ⟨b23,o24,none⟩),.map (some b35),.slice none 0 0,.slice none 0 0,.slice none 0 0,.int .i64 0]::.map b35 [] 0::.blk b6 29 [.int .i64 0,.int .i64 0,.int .i64 0]::(bitsRes 4 []++rsF)):=by rw [List.length_replicate]; exact hS
  refine wl (s_nilck (et (k20 d3)) (dt (q30 p0)) ?_)
  refine wl (s_fa fa94_4 (et (k30 d0)) rfl (dt (q30 p1)) ?_)
  refine wl (s_fa fa92_1 (et (k30 d1)) rfl (dt (q30 p2)) ?_)
  refine wl (s_store1 ti90 (et (k30 d2)) (et (k20 d9)) rfl hS d1 p5 rfl p1 dn ?_)
  clear hS; intro w5 hS
  refine wnil ?_
  refine xn ?_
  refine cseq ?_
  refine cseq ?_
  refine creg ?_
  refine wl (s_move (et d5) (dt (q30 p3)) ?_)
  refine wl (s_nilck (et (k30 d3)) (dt (q30 p4)) ?_)
  refine wl (s_fa fa41_1 (et (k30 d4)) rfl (dt (q30 p5)) ?_)
  refine wl (s_load ti3 (et (k30 d5)) ((f27 _ hS.a).one d1) (dt (q30 p6)) ?_)
  refine wl (s_move ec (dt (q30 p7)) ?_)
  refine wnil ?_
  refine xn ?_
  refine cblock ?_
  replace hS:=hS.bg (Bg.s Bg.z)
  replace hS:=hS.bg (Bg.s (Bg.s Bg.z))
  replace hS:=hS.bg (Bg.s (Bg.s (Bg.s Bg.z)))
  refine cloopE ([7]++rg 38 10) (by decide) (fun n m w=>∃ (μx:M) (i60:Int) (l63:List Bool) (v61:Value) (cs62:List Value),m=(yK7 (yO1 7 (yK20 (yK9 (.i (.int .i64 i60)::(yO10 38 []))))))∧vf_code_l1 fu p_1 p_2 x21 n i60 l63=some r∧Le μ0 μx∧Sq μx w0 w (.blk b6 29 [.int .i64 0,.int .i64 0,.int .i64 0]::.map b35 [] 0::.blk b37 94 [.pointer (some ⟨b1,o2,none⟩),.pointer (some ⟨b23,o24,none⟩),.map (some b35),.slice none 0 0,.slice none 0 0,v61,.int .i64 0]::.row v61 4 1 l63.length cs62::(bitsRes 4 []++rsF))∧Rw μx cs62 l63) (by rintro _ _ _ ⟨_,_,_,_,_,rfl,_⟩; rfl) _ _ (aK7 (aO1 (aK20 (aK9 (aI (aO10 aZ)))))) ⟨_,0,(List.replicate k39 (false:Bool)),(.slice (some ⟨b41,0,none⟩) k39 k39),(List.replicate k39 (.bool false)),rfl,h,Le.r,hS,m42⟩ ?_
  rintro n_1 _ t w6 ⟨μ1,i60,l63,v61,cs62,rfl,h,le82,hS,m83⟩
  cases n_1 with
  | zero=>cases h
  | succ n_1 =>
  unfold vf_code_l1 at h
  refine cnrm (mK7 (mO1 (mK20 (mK9 (mi (mO10 mz)))))) ?_
  refine cseq ?_
  refine creg ?_
  refine wl (s_lss (et (k30 d7)) (et (k30 d6)) (dt (q30 p8)) ?_)
  refine wnil ?_
  refine xn ?_
  refine cseq ?_
  refine cifd (et (k30 d8)) (fun h84=>?_) (fun h84=>?_)
  · replace h:=iT h84 h
    refine cskip ?_
    refine xn ?_
    refine cseq ?_
    refine cblock ?_
    refine cseq ?_
    refine creg ?_
    refine wl (s_move (et (k30 d7)) (dt (q30 p9)) ?_)
    refine wl (s_assign (et (k30 d9)) (dt p7) ?_)
    refine wnil ?_
    refine xn ?_
    refine creg ?_
    refine wl (s_move (et d6) (dt (q40 p0)) ?_)
    refine wl (s_nilck (et (k40 d0)) (dt (q40 p1)) ?_)
    refine wl (s_fa fa94_4 (et (k40 d1)) rfl (dt (q40 p2)) ?_)
    refine wl (s_fa fa92_1 (et (k40 d2)) rfl (dt (q40 p3)) ?_)
    refine wl (s_load ti90 (et (k40 d3)) ((hS.blk d2).cell d5) (dt (q40 p4)) ?_)
    refine wl (s_move (et d7) (dt (q40 p5)) ?_)
    replace h:=bI h; obtain ⟨x85,g86,h⟩:=h
    obtain ⟨b87,o88,pc89,cs90,sc91,ec92,e93,f94,m95,pn96,st97,m98⟩:=Row.elemS (α:=Bool) (hS.get d3) m83 rfl g86
    rw [ec92] at hS
    obtain rfl:=m95
    refine wl (s_iax Tryz.underlying90 ti4 (et (k40 d4)) (et (k40 d5)) e93 (dt (q40 p6)) ?_)
    have m99:=st97 _ [.bool true] true Le.r rfl
    refine wl (s_storeR (off:=0) ti4 (et (k40 d6)) ec rfl rfl rfl hS d3 e93 (Nat.le_of_ble_eq_true rfl) (open_store pn96 rfl (Nat.le_of_ble_eq_true rfl)) p3 dn ?_); clear hS; intro w7 hS
    replace hS:Sq μ1 w0 w7 (.blk b6 29 [.int .i64 0,.int .i64 0,.int .i64 0]::.map b35 [] 0::.blk b37 94 [.pointer (some ⟨b1,o2,none⟩),.pointer (some ⟨b23,o24,none⟩),.map (some b35),.slice none 0 0,.slice none 0 0,v61,.int .i64 0]::.row v61 4 1 (l63.set i60.toNat true).length (pc89++([.bool true]++sc91))::(bitsRes 4 []++rsF)):=by rw [List.length_set]; exact hS
    refine wnil ?_
    refine (fun h=>bn (xn h)) ?_
    refine creg ?_
    replace h:=bI h; obtain ⟨i100,g101,h⟩:=h
    refine wl (s_addc (et (k30 d7)) ec g101 (dt (q40 p7)) ?_)
    refine wl (s_move (et (k40 d7)) (dt (q30 p7)) ?_)
    refine wnil ?_
    refine xl ?_
    exact ⟨n_1,_,_,rfl,(aK7 (aO1 (aK20 (aK9 (aI (aO10 aZ)))))),⟨_,i100,(l63.set i60.toNat true),v61,(pc89++([.bool true]++sc91)),rfl,h,le82,hS,m99⟩,Nat.lt_succ_self _⟩
  · replace h:=iF h84 h
    refine cexit ?_
    refine (fun h=>xe (xe (bh h))) ?_
    refine xn ?_
    refine cseq ?_
    refine creg ?_
    refine wl (s_move (et d6) (dt (q40 p8)) ?_)
    replace hS:=hS.nilRow 3 (Mo.sz Int)
    replace hS:=hS.nilRow 3 (Mo.sz Int)
    replace h:=bI h; obtain ⟨r104,g105,h⟩:=h
    replace hS:=hS.bg (Bg.s (Bg.s (Bg.s (Bg.s (Bg.s Bg.z)))))
    replace hS:=hS.bg (Bg.s Bg.z)
    replace hS:=hS.bg (Bg.s (Bg.s Bg.z))
    replace hS:=hS.bg (Bg.s (Bg.s (Bg.s (Bg.s Bg.z))))
    replace hS:=hS.bg (Bg.s (Bg.s (Bg.s (Bg.s (Bg.s Bg.z)))))
    replace hS:=Sep.mOut (a:=[_,_,_,_,_]) (p:=[_]) (M:=bitsRes 4 []) (R:=rsF) hS
    refine wl (s_callv isfn37 ef (e1 (et (k40 d8)) (e1 ec e0)) (vf_to_w (hg.t le82) (m4.up le82) (m5.up le82) (m31.up le82) (m34.up le82) (f27.up le82) ((Pil.nil (μ:=μ0) (c:=0)).up le82) (Rw.nil (α:=Int) (μ:=μ1)) (Rw.nil (α:=Int) (μ:=μ1)) m83 g105 hS) ?_)
    rintro _ w8 ⟨μ2,es107,c108,bs109,v111,cs112,v114,cs115,v117,cs118,rfl,le106,hS,m110,m113,m116,m119⟩
    replace hS:=Sep.mOut (a:=[_,_,_,_,_]) (p:=bitsRes 4 bs109) (M:=[_]) (R:=rsF) hS
    refine pu (dt (q40 p9)) ?_
    refine wnil ?_
    refine xn ?_
    refine cseq ?_
    refine cblock ?_
    replace hS:=hS.bg (Bg.s (Bg.s (Bg.s Bg.z)))
    replace hS:=hS.bg (Bg.s (Bg.s (Bg.s Bg.z)))
    replace hS:=hS.bg (Bg.s (Bg.s (Bg.s (Bg.s Bg.z))))
    replace hS:=hS.bg (Bg.s (Bg.s (Bg.s Bg.z)))
    replace hS:=hS.bg (Bg.s (Bg.s (Bg.s (Bg.s Bg.z))))
    replace hS:=hS.bg (Bg.s (Bg.s (Bg.s (Bg.s (Bg.s Bg.z)))))
    refine cloopE ([8]++rg 50 55) (by decide +kernel) (fun n m w=>∃ (μx:M) (i223:Int) (l226:List Bool) (v224:Value) (cs225:List Value) (l230:List Int) (v228:Value) (cs229:List Value) (l234:List Int) (v232:Value) (cs233:List Value) (l239:List (Int×TVs)) (es236:List MapEntry) (c237:Nat) (bs238:Bits),m=(yK8 (yO1 8 (yK20 (yK20 (yK1 (yO50 50 (yO5 100 [])))))))∧vf_code_l2 fu p_1 p_2 x21 n i223 l226 l230 l234 l239=some r∧Le μ2 μx∧Sq μx w0 w (.blk b6 29 [.int .i64 0,.int .i64 0,.int .i64 0]::.map b35 es236 c237::.blk b37 94 [.pointer (some ⟨b1,o2,none⟩),.pointer (some ⟨b23,o24,none⟩),.map (some b35),v228,v232,v224,.int .i64 i223]::.row v224 4 1 l226.length cs225::.row v228 3 1 l230.length cs229::.row v232 3 1 l234.length cs233::(bitsRes 4 bs238++rsF))∧Rw μx cs225 l226∧Rw μx cs229 l230∧Rw μx cs233 l234∧Pil μx es236 c237 bs238 l239) (by rintro _ _ _ ⟨_,_,_,_,_,_,_,_,_,_,_,_,_,_,_,rfl,_⟩; rfl) _ _ (aK8 (aO1 (aK20 (aK20 (aK1 (aO50 (aO5 aZ))))))) ⟨_,r104.2.2.2.2,r104.2.2.2.1,v117,cs118,r104.2.1,v111,cs112,r104.2.2.1,v114,cs115,r104.1,es107,c108,bs109,rfl,h,Le.r,hS,m119,m113,m116,m110⟩ ?_
    rintro n_2 _ t w9 ⟨μ3,i223,l226,v224,cs225,l230,v228,cs229,l234,v232,cs233,l239,es236,c237,bs238,rfl,h,le344,hS,m345,m346,m347,m348⟩
    cases n_2 with
    | zero=>cases h
    | succ n_2 =>
    unfold vf_code_l2 at h
    refine cnrm (mK8 (mO1 (mK20 (mK20 (mK1 (mO50 (mO5 mz))))))) ?_
    refine cseq ?_
    refine cseq ?_
    refine creg ?_
    refine wl (s_move (et d6) (dt (q50 p0)) ?_)
    refine wl (s_nilck (et (k50 d0)) (dt (q50 p1)) ?_)
    refine wl (s_fa fa94_3 (et (k50 d1)) rfl (dt (q50 p2)) ?_)
    refine wl (s_load ti38 (et (k50 d2)) ((hS.blk d2).cell d3) (dt (q50 p3)) ?_)
    refine wl (s_lenv Tryz.underlying38 (et (k50 d3)) (hS.get d4).isSl (dt (q50 p4)) ?_)
    refine wl (s_gtr (et (k50 d4)) ec (dt (q50 p5)) ?_)
    refine wnil ?_
    refine xn ?_
    refine cifd (et (k50 d5)) (fun h349=>?_) (fun h349=>?_)
    · replace h:=iT h349 h
      refine cskip ?_
      refine xn ?_
      refine cblock ?_
      refine cseq ?_
      refine creg ?_
      refine wl (s_move (et d6) (dt (q50 p6)) ?_)
      refine wl (s_nilck (et (k50 d6)) (dt (q50 p7)) ?_)
      refine wl (s_fa fa94_3 (et (k50 d7)) rfl (dt (q50 p8)) ?_)
      refine wl (s_load ti38 (et (k50 d8)) ((hS.blk d2).cell d3) (dt (q50 p9)) ?_)
      replace h:=bI h; obtain ⟨x350,g351,h⟩:=h
      obtain ⟨b352,o353,pc354,cs355,sc356,ec357,e358,f359,m360,pn361,st362,m363⟩:=Row.elemS (α:=Int) (hS.get d4) m346 rfl g351
      rw [ec357] at hS
      obtain rfl:=m360
      refine wl (s_iax Tryz.underlying38 ti3 (et (k50 d9)) ec e358 (dt (q60 p0)) ?_)
      refine wl (s_load ti3 (et (k60 d0)) ((f359 _ _ _ (hS.get d4) rfl).one d0) (dt (q60 p1)) ?_)
      refine wl (s_assign (et (k60 d1)) (dt p8) ?_)
      refine wnil ?_
      refine xn ?_
      refine cseq ?_
      refine creg ?_
      refine wl (s_move (et d6) (dt (q60 p2)) ?_)
      refine wl (s_move (et d6) (dt (q60 p3)) ?_)
      refine wl (s_nilck (et (k60 d3)) (dt (q60 p4)) ?_)
      refine wl (s_fa fa94_3 (et (k60 d4)) rfl (dt (q60 p5)) ?_)
      refine wl (s_load ti38 (et (k60 d5)) ((hS.blk d2).cell d3) (dt (q60 p6)) ?_)
      replace h:=bI h; obtain ⟨l364,g365,h⟩:=h
      obtain ⟨v366,cs371,e367,hb368,hr369,m370⟩:=Row.cutQ (hS.get d4) m363 g365
      replace hS:=hS.reRow d4 hb368 hr369 p4
      refine wl (s_slc Tryz.underlying38 ti3 (et (k60 d6)) (.s ec) .n e367 (dt (q60 p7)) ?_)
      refine wl (s_nilck (et (k60 d2)) (dt (q60 p8)) ?_)
      refine wl (s_fa fa94_3 (et (k60 d8)) rfl (dt (q60 p9)) ?_)
      refine wl (s_store1 ti38 (et (k60 d9)) (et (k60 d7)) (hS.get d4).cellV hS d2 p3 rfl p2 dn ?_)
      clear hS; intro w10 hS
      refine wnil ?_
      refine xn ?_
      refine cseq ?_
      refine creg ?_
      refine wl (s_move (et d6) (dt (q70 p0)) ?_)
      refine wl (s_move (et d6) (dt (q70 p1)) ?_)
      refine wl (s_nilck (et (k70 d1)) (dt (q70 p2)) ?_)
      refine wl (s_fa fa94_2 (et (k70 d2)) rfl (dt (q70 p3)) ?_)
      refine wl (s_load ti89 (et (k70 d3)) ((hS.blk d2).cell d2) (dt (q70 p4)) ?_)
      refine wl (s_move (et d8) (dt (q70 p5)) ?_)
      replace h:=bI h; obtain ⟨x374,g375,h⟩:=h
      obtain ⟨bs376,v377,bs378,e379,e373,es380⟩:=pz_get _ _ _ _ m348.has g375
      refine wl (s_pget1 (k:=x350) Tryz.underlying89 Tryz.underlying3 (et (k70 d4)) (et (k70 d5)) zv92 (hS.get d1) m348.mq e373 ?_); intro a381 c382 m383; refine pu (dt (q70 p6)) ?_
      rw [e379] at hS
      replace hS:Sq μ3 w0 _ (.row v377 4 1 x374.has.length (x374.has.map Value.bool)::.blk b6 29 [.int .i64 0,.int .i64 0,.int .i64 0]::.map b35 es236 c237::.blk b37 94 [.pointer (some ⟨b1,o2,none⟩),.pointer (some ⟨b23,o24,none⟩),.map (some b35),v366,v232,v224,.int .i64 i223]::.row v224 4 1 l226.length cs225::.row v366 3 1 l364.length cs371::.row v232 3 1 l234.length cs233::(bitsRes 4 (bs376++bs378)++rsF)):=sep_bOpen (a:=[_,_,_,_,_,_]) hS
      replace h:=bI h; obtain ⟨r384,g385,h⟩:=h
      refine wl (s_callv isfn38 ef (e1 (et (k70 d6)) e0) (vf_copied1_w (hg.t (le82.t (le106.t le344))) m383 (rw_bools (μ:=μ3) x374.has) g385 hS) ?_)
      rintro _ w11 ⟨μ4,v387,cs388,v390,cs391,rfl,le386,hS,m389,m392⟩
      refine pu (dt (q70 p7)) ?_
      refine wl (s_nilck (et (k70 d0)) (dt (q70 p8)) ?_)
      refine wl (s_fa fa94_4 (et (k70 d8)) rfl (dt (q70 p9)) ?_)
      refine wl (s_store ti92 (et (k70 d9)) (et (k70 d7)) rfl rfl (cv_s ((hS.get d0).cellV) (cv_s ((hS.get d1).cellV) cv_z)) hS d5 (Spl.s p4 (of_decide_eq_true rfl) (Spl.s p5 (of_decide_eq_true rfl) Spl.z)) rfl p5 dn ?_)
      clear hS; intro w12 hS
      replace hS:=hS.drop (Rm.s (Rm.s (Rm.s (Rm.s (Rm.s (Rm.s (Rm.s (Rm.s Rm.z))))))))
      replace hS:=hS.drop (Rm.s (Rm.s (Rm.s (Rm.s (Rm.s (Rm.s Rm.z))))))
      refine wnil ?_
      refine xn ?_
      refine cseq ?_
      refine cseq ?_
      refine creg ?_
      refine wl (s_move (et d6) (dt (q80 p0)) ?_)
      refine wl (s_move (et d5) (dt (q80 p1)) ?_)
      refine wl (s_nilck (et (k80 d1)) (dt (q80 p2)) ?_)
      refine wl (s_fa fa41_5 (et (k80 d2)) rfl (dt (q80 p3)) ?_)
      refine wl (s_load ti39 (et (k80 d3)) ((f27 _ ((le82.t (le106.t (le344.t le386))) _ hS.a)).one d5) (dt (q80 p4)) ?_)
      refine wl (s_move (et d8) (dt (q80 p5)) ?_)
      replace h:=bI h; obtain ⟨x393,g394,h⟩:=h
      obtain ⟨b395,o396,cs397,e398,f399,m400⟩:=SlR.elem (m34.up (le82.t (le106.t (le344.t le386)))) g394
      obtain rfl:=m400
      refine wl (s_iax Tryz.underlying39 ti43 (et (k80 d4)) (et (k80 d5)) e398 (dt (q80 p6)) ?_)
      refine wl (s_loads ti43 (et (k80 d6)) (f399 _ hS.a) rfl (dt (q80 p7)) ?_)
      replace hS:=hS.bg (Bg.s (Bg.s Bg.z))
      replace hS:Sq μ4 w0 _ (.row v387 3 1 r384.stack.length cs388::.row v390 4 1 r384.has.length cs391::.blk b6 29 [.int .i64 0,.int .i64 0,.int .i64 0]::.map b35 es236 c237::.blk b37 94 [.pointer (some ⟨b1,o2,none⟩),.pointer (some ⟨b23,o24,none⟩),.map (some b35),v366,v387,v390,.int .i64 i223]::.row v366 3 1 l364.length cs371::(bitsRes 4 (bs376++(v377,x374.has)::bs378)++rsF)):=sep_bClose (a:=[_,_,_,_,_,_]) hS ((rw_bools (μ:=μ3) x374.has).up le386)
      rw [← e379] at hS
      replace h:=bI h; obtain ⟨r401,g402,h⟩:=h
      replace hS:=hS.bg (Bg.s Bg.z)
      replace hS:=hS.bg (Bg.s Bg.z)
      replace hS:=hS.bg (Bg.s (Bg.s (Bg.s (Bg.s (Bg.s Bg.z)))))
      replace hS:=hS.bg (Bg.s (Bg.s (Bg.s (Bg.s Bg.z))))
      replace hS:=hS.bg (Bg.s (Bg.s (Bg.s (Bg.s (Bg.s Bg.z)))))
      replace hS:=Sep.mOut (a:=[_,_,_,_,_]) (p:=[_]) (M:=bitsRes 4 bs238) (R:=rsF) hS
      refine wl (s_callv isfn39 ef (e1 (et (k80 d0)) (e1 (et (k80 d7)) e0)) (vf_step_w (hg.t (le82.t (le106.t (le344.t le386)))) (m4.up (le82.t (le106.t (le344.t le386)))) (m5.up (le82.t (le106.t (le344.t le386)))) (m31.up (le82.t (le106.t (le344.t le386)))) (m34.up (le82.t (le106.t (le344.t le386)))) (f27.up (le82.t (le106.t (le344.t le386)))) (m348.up le386) (m370.up le386) m389 m392 g402 hS) ?_)
      rintro _ w13 ⟨μ5,es404,c405,bs406,v408,cs409,v411,cs412,v414,cs415,rfl,le403,hS,m407,m410,m413,m416⟩
      replace hS:=Sep.mOut (a:=[_,_,_,_,_]) (p:=bitsRes 4 bs406) (M:=[_]) (R:=rsF) hS
      refine pu (dt (q80 p8)) ?_
      refine wnil ?_
      refine xn ?_
      refine ccutE (rg 89 4) (by decide) (fun m w=>∃ (μx:M) (i417:Int) (l420:List Bool) (v418:Value) (cs419:List Value) (l424:List Int) (v422:Value) (cs423:List Value) (l428:List Int) (v426:Value) (cs427:List Value) (l433:List (Int×TVs)) (es430:List MapEntry) (c431:Nat) (bs432:Bits),m=(yK50 (yK20 (yK10 (yK9 (yO4 89 [])))))∧vf_code_j1 p_2 x350 (vf_code_l2 fu p_1 p_2 x21 n_2) i417 l420 l424 l428 l433=some r∧Le μ5 μx∧Sq μx w0 w (.blk b6 29 [.int .i64 0,.int .i64 0,.int .i64 0]::.map b35 es430 c431::.blk b37 94 [.pointer (some ⟨b1,o2,none⟩),.pointer (some ⟨b23,o24,none⟩),.map (some b35),v422,v426,v418,.int .i64 i417]::.row v418 4 1 l420.length cs419::.row v422 3 1 l424.length cs423::.row v426 3 1 l428.length cs427::(bitsRes 4 bs432++rsF))∧Rw μx cs419 l420∧Rw μx cs423 l424∧Rw μx cs427 l428∧Pil μx es430 c431 bs432 l433) (by rintro _ _ ⟨_,_,_,_,_,_,_,_,_,_,_,_,_,_,_,rfl,_⟩; rfl) ?_ ?_
      · refine cifb (et (k80 d8)) (fun h435=>?_) (fun h435=>?_)
        · replace h:=iT h435 h
          refine creg ?_
          refine wl (s_move (et d6) (dt (q80 p9)) ?_)
          refine wl (s_move (et d8) (dt (q90 p0)) ?_)
          replace h:=bI h; obtain ⟨i436,g437,h⟩:=h
          refine wl (s_addc (et (k90 d0)) ec g437 (dt (q90 p1)) ?_)
          replace h:=bI h; obtain ⟨r438,g439,h⟩:=h
          replace hS:=hS.bg (Bg.s (Bg.s (Bg.s (Bg.s Bg.z))))
          replace hS:=hS.bg (Bg.s (Bg.s (Bg.s (Bg.s Bg.z))))
          replace hS:=hS.bg (Bg.s (Bg.s (Bg.s (Bg.s Bg.z))))
          replace hS:=hS.bg (Bg.s (Bg.s (Bg.s (Bg.s Bg.z))))
          replace hS:=hS.bg (Bg.s (Bg.s (Bg.s (Bg.s Bg.z))))
          replace hS:=Sep.mOut (a:=[_,_,_,_,_]) (p:=[_]) (M:=bitsRes 4 bs406) (R:=rsF) hS
          refine wl (s_callv isfn37 ef (e1 (et (k80 d9)) (e1 (et (k90 d1)) e0)) (vf_to_w (hg.t (le82.t (le106.t (le344.t (le386.t le403))))) (m4.up (le82.t (le106.t (le344.t (le386.t le403))))) (m5.up (le82.t (le106.t (le344.t (le386.t le403))))) (m31.up (le82.t (le106.t (le344.t (le386.t le403))))) (m34.up (le82.t (le106.t (le344.t (le386.t le403))))) (f27.up (le82.t (le106.t (le344.t (le386.t le403))))) m407 m410 m413 m416 g439 hS) ?_)
          rintro _ w14 ⟨μ6,es441,c442,bs443,v445,cs446,v448,cs449,v451,cs452,rfl,le440,hS,m444,m447,m450,m453⟩
          replace hS:=Sep.mOut (a:=[_,_,_,_,_]) (p:=bitsRes 4 bs443) (M:=[_]) (R:=rsF) hS
          refine pu (dt (q90 p2)) ?_
          refine wnil ?_
          refine xl ?_
          replace hS:=hS.bg (Bg.s (Bg.s (Bg.s Bg.z)))
          replace hS:=hS.bg (Bg.s (Bg.s (Bg.s Bg.z)))
          replace hS:=hS.bg (Bg.s (Bg.s (Bg.s (Bg.s Bg.z))))
          replace hS:=hS.bg (Bg.s (Bg.s (Bg.s Bg.z)))
          replace hS:=hS.bg (Bg.s (Bg.s (Bg.s (Bg.s Bg.z))))
          replace hS:=hS.bg (Bg.s (Bg.s (Bg.s (Bg.s (Bg.s Bg.z)))))
          exact ⟨_,_,rfl,(aK50 (aK20 (aK10 (aK9 (aO4 aZ))))),_,r438.2.2.2.2,r438.2.2.2.1,v451,cs452,r438.2.1,v445,cs446,r438.2.2.1,v448,cs449,r438.1,es441,c442,bs443,rfl,h,le440,hS,m453,m447,m450,m444⟩
        · replace h:=iF h435 h
          refine cskip ?_
          refine xl ?_
          replace hS:=hS.bg (Bg.s (Bg.s (Bg.s Bg.z)))
          replace hS:=hS.bg (Bg.s (Bg.s (Bg.s Bg.z)))
          replace hS:=hS.bg (Bg.s (Bg.s (Bg.s (Bg.s Bg.z))))
          replace hS:=hS.bg (Bg.s (Bg.s (Bg.s Bg.z)))
          replace hS:=hS.bg (Bg.s (Bg.s (Bg.s (Bg.s Bg.z))))
          replace hS:=hS.bg (Bg.s (Bg.s (Bg.s (Bg.s (Bg.s Bg.z)))))
          exact ⟨_,_,rfl,(aK50 (aK20 (aK10 (aK9 (aO4 aZ))))),_,r401.2.2.2.2.2,r401.2.2.2.2.1,v414,cs415,r401.2.2.1,v408,cs409,r401.2.2.2.1,v411,cs412,r401.2.1,es404,c405,bs406,rfl,h,Le.r,hS,m416,m410,m413,m407⟩
      · rintro _ t w15 ⟨μ7,i417,l420,v418,cs419,l424,v422,cs423,l428,v426,cs427,l433,es430,c431,bs432,rfl,h,le454,hS,m455,m456,m457,m458⟩
        unfold vf_code_j1 at h
        refine nrm (mK50 (mK20 (mK10 (mK9 (mO4 mz))))) ?_
        refine xn ?_
        refine cseq ?_
        refine creg ?_
        refine wl (s_move (et d6) (dt (q90 p3)) ?_)
        refine wl (s_nilck (et (k90 d3)) (dt (q90 p4)) ?_)
        refine wl (s_fa fa94_5 (et (k90 d4)) rfl (dt (q90 p5)) ?_)
        refine wl (s_load ti27 (et (k90 d5)) ((hS.blk d2).cell d6) (dt (q90 p6)) ?_)
        refine wl (s_nei (et (k90 d6)) ec (dt (q90 p7)) ?_)
        refine wnil ?_
        refine xn ?_
        refine cifd (et (k90 d7)) (fun h459=>?_) (fun h459=>?_)
        · replace h:=iT h459 h
          refine cseq ?_
          refine creg ?_
          refine wl (s_move (et d6) (dt (q90 p8)) ?_)
          refine wl (s_nilck (et (k90 d8)) (dt (q90 p9)) ?_)
          refine wl (s_fa fa94_5 (et (k90 d9)) rfl (dt (q100 p0)) ?_)
          refine wl (s_load ti27 (et (k100 d0)) ((hS.blk d2).cell d6) (dt (q100 p1)) ?_)
          refine wl (s_move (et d1) (dt (q100 p2)) ?_)
          refine wl (s_move (et d8) (dt (q100 p3)) ?_)
          refine wl (s_build ti29 pl29 (Fl.o rfl (et (k100 d1)) rfl rfl p0 (Fl.o rfl (et (k100 d2)) rfl rfl p1 (Fl.o rfl (et (k100 d3)) rfl rfl p2 Fl.z))) (dt (q100 p4)) ?_)
          refine wl (s_storeA ti29 (et d4) (et (k100 d4)) rfl rfl hS d0 rfl p0 dn ?_)
          clear hS; intro w16 hS
          refine wnil ?_
          refine xn ?_
          refine cret ?_
          refine (fun h=>br (xr (br (xr h)))) ?_
          obtain rfl:=oI h
          refine retN rfl (RVs.s (.a d4 ti29 (hS.blk d0).cells rfl) RVs.z) ?_
          replace hS:=hS.drop Rm.z
          replace hS:=hS.drop Rm.z
          replace hS:=hS.drop Rm.z
          replace hS:=hS.drop Rm.z
          replace hS:=hS.drop Rm.z
          replace hS:=hS.drop Rm.z
          replace hS:=sep_bDrop (a:=[]) hS
          exact ⟨_,rfl,(le82.t (le106.t (le344.t (le386.t (le403.t le454))))),hS⟩
        · replace h:=iF h459 h
          refine cskip ?_
          refine (fun h=>bn (xl h)) ?_
          exact ⟨n_2,_,_,rfl,(aK8 (aO1 (aK20 (aK20 (aK1 (aO50 (aO5 aZ))))))),⟨_,i417,l420,v418,cs419,l424,v422,cs423,l428,v426,cs427,l433,es430,c431,bs432,rfl,h,(le344.t (le386.t (le403.t le454))),hS,m455,m456,m457,m458⟩,Nat.lt_succ_self _⟩
    · replace h:=iF h349 h
      refine cexit ?_
      refine (fun h=>xe (xe (bh h))) ?_
      refine xn ?_
      refine cseq ?_
      refine creg ?_
      refine wl (s_build ti29 pl29 Fl.z (dt (q100 p5)) ?_)
      refine wl (s_storeA ti29 (et d4) (et (k100 d5)) rfl rfl hS d0 rfl p0 dn ?_)
      clear hS; intro w17 hS
      refine wnil ?_
      refine xn ?_
      refine cret ?_
      obtain rfl:=oI h
      refine retN rfl (RVs.s (.a d4 ti29 (hS.blk d0).cells rfl) RVs.z) ?_
      replace hS:=hS.drop Rm.z
      replace hS:=hS.drop Rm.z
      replace hS:=hS.drop Rm.z
      replace hS:=hS.drop Rm.z
      replace hS:=hS.drop Rm.z
      replace hS:=hS.drop Rm.z
      replace hS:=sep_bDrop (a:=[]) hS
      exact ⟨_,rfl,(le82.t (le106.t le344)),hS⟩
theorem vf_reach_w {fu:Nat} {μ0:M} {w0 w:World} {rsF:List Res} (hg:Le Gm μ0) {p_1:TVc} {b1:Nat} {o2:Nat} {v3:Value} {p_2:Int} {r:List Int} (m4:Np μ0 v3 p_1.m) (m5:At μ0 b1 o2 [v3]) (h:vf_reach fu p_1 p_2=some r) (hS:Sq μ0 w0 w (rsF)):CallsV Tryz.prog 41 [.pointer (some ⟨b1,o2,none⟩),.int .i64 p_2] w (fun v w'=>∃ (μ':M) (a6:Option Addr) (c7:Nat),v=.slice a6 r.length c7∧Le μ0 μ'∧Sq μ' w0 w' (rsF)∧Sl μ' a6 c7 r):=by
  unfold vf_reach at h
  refine enter Tryz.func41 rfl (frm:=[_,_,_,_,_,_,_,_,_,_,_,_,_,_,_,_,_,_,_,_,_,_,_,_,_,_,_,_,_,_,_,_,_,_,_,_,_,_,_,_,_,_,_,_,_,_,_,_,_,_,_,_,_,_,_,_,_,_]) rfl ?_
  refine cseq ?_
  refine creg ?_
  refine wl (s_assign ec (dt p4) ?_)
  refine wnil ?_
  refine xn ?_
  refine cseq ?_
  refine creg ?_
  refine wl (s_move (et d1) (dt p9) ?_)
  refine wl (s_bsl Tryz.underlying38 ti3 (Parts.s (et d9) rfl Parts.z) rfl rfl hS ?_); clear hS; intro b9 w1 hb10 hS; refine pu (dt (q10 p0)) ?_
  refine wl (s_assign (et (k10 d0)) (dt p5) ?_)
  refine wnil ?_
  refine xn ?_
  refine cseq ?_
  refine cseq ?_
  refine creg ?_
  refine wl (s_assign ec (dt p6) ?_)
  refine wnil ?_
  refine xn ?_
  refine cblock ?_
  replace hS:=hS.blkRow (n:=1) (sz:=Mo.sz Int) d0 rfl (by decide) p0
  have m11:Rw μ0 [.int .i64 p_2] ([p_2]:List Int):=(Rw.one (α:=Int) rfl)
  refine cloopE ([8]++rg 11 46) (by decide +kernel) (fun n m w=>∃ (μx:M) (i144:Int) (l147:List Int) (v145:Value) (cs146:List Value),m=(yK5 (.i (v145)::(.i (.int .i64 i144)::(yK1 (yO1 8 (yK2 (yO20 11 (yO20 31 (yO6 51 [])))))))))∧vf_reach_l1 p_1 n i144 l147=some r∧Le μ0 μx∧Sq μx w0 w (.row v145 3 1 l147.length cs146::rsF)∧Rw μx cs146 l147) (by rintro _ _ _ ⟨_,_,_,_,_,rfl,_⟩; rfl) _ _ (aK5 (aI (aI (aK1 (aO1 (aK2 (aO20 (aO20 (aO6 aZ))))))))) ⟨_,0,([p_2]:List Int),(.slice (some ⟨b9,0,none⟩) 1 1),[.int .i64 p_2],rfl,h,Le.r,hS,m11⟩ ?_
  rintro n_1 _ t w2 ⟨μ1,i144,l147,v145,cs146,rfl,h,le281,hS,m282⟩
  cases n_1 with
  | zero=>cases h
  | succ n_1 =>
  unfold vf_reach_l1 at h
  refine cnrm (mK5 (mi (mi (mK1 (mO1 (mK2 (mO20 (mO20 (mO6 mz))))))))) ?_
  refine cseq ?_
  refine cseq ?_
  refine creg ?_
  refine wl (s_move (et d6) (dt (q10 p1)) ?_)
  refine wl (s_move (et d5) (dt (q10 p2)) ?_)
  refine wl (s_lenv Tryz.underlying38 (et (k10 d2)) (hS.get d0).isSl (dt (q10 p3)) ?_)
  refine wl (s_lss (et (k10 d1)) (et (k10 d3)) (dt (q10 p4)) ?_)
  refine wnil ?_
  refine xn ?_
  refine cifd (et (k10 d4)) (fun h283=>?_) (fun h283=>?_)
  · replace h:=iT h283 h
    refine cskip ?_
    refine xn ?_
    refine cseq ?_
    refine cblock ?_
    refine cseq ?_
    refine cdraw (by kernel_rfl) rfl fun w3 hh_ ho_ ht_ hu_=>?_
    replace hS:=hS.drew hh_ ho_ ht_ hu_
    refine sf_start ?_
    refine sf_pu (i:=0) [0,1,2,3,4,5,6,11,12,13,14] (blind_of fun _ _ _ h=>h.2) rfl rfl rfl (u_move (et d0)) (q10 p7) ?_
    refine sf_pu (i:=1) [1,2,3,4,5,6,11,12,13,14] (blind_of fun _ _ _ h=>h.2) rfl rfl rfl (u_nilck (et (k10 d7))) (q10 p8) ?_
    refine sf_pu (i:=2) [2,3,4,5,6,11,12,13,14] (blind_of fun _ _ _ h=>h.2) rfl rfl rfl (u_fa fa75_0 (et (k10 d8)) rfl) (q10 p9) ?_
    refine sf_rd (i:=3) [3,4,5,6,11,12,13,14] (blind_of fun _ _ _ h=>h.2) rfl rfl rfl (u_load ti72 (et (k10 d9)) ((m5 _ (le281 _ hS.a)).one d0)) (q20 p0) ?_
    replace h:=bI h; obtain ⟨x284,g285,h⟩:=h
    obtain ⟨b286,o287,cs288,rfl,f289,m290⟩:=Np.get (m4.up le281) g285
    obtain ⟨a291,c292,a294,c295,rfl,m293,m296⟩:=m290
    refine sf_pu (i:=4) [4,5,6,11,12,13,14] (blind_of fun _ _ _ h=>h.2) rfl rfl rfl (u_nilck (et (k20 d0))) (q20 p1) ?_
    refine sf_pu (i:=5) [5,6,11,12,13,14] (blind_of fun _ _ _ h=>h.2) rfl rfl rfl (u_fa fa25_1 (et (k20 d1)) rfl) (q20 p2) ?_
    refine sf_rd (i:=6) [6,11,12,13,14] (blind_of fun _ _ _ h=>h.2) rfl rfl rfl (u_load ti23 (et (k20 d2)) ((f289 _ hS.a).one d1)) (q20 p3) ?_
    refine sf_pu (i:=7) [7,9,10,11,12,13,14] (blind_of fun _ _ _ h=>h.2) rfl rfl rfl (u_move (et d5)) (q20 p4) ?_
    refine sf_pu (i:=8) [8,9,10,11,12,13,14] (blind_of fun _ _ _ h=>h.2) rfl rfl rfl (u_move (et d6)) (q20 p5) ?_
    replace h:=bI h; obtain ⟨x297,g298,h⟩:=h
    obtain ⟨b299,o300,pc301,cs302,sc303,ec304,e305,f306,m307,pn308,st309,m310⟩:=Row.elemS (α:=Int) (hS.get d0) m282 rfl g298
    rw [ec304] at hS
    obtain rfl:=m307
    refine sf_pu (i:=9) [9,10,11,12,13,14] (blind_of fun _ _ _ h=>h.2) rfl rfl rfl (u_iax Tryz.underlying38 ti3 (et (k20 d4)) (et (k20 d5)) e305) (q20 p6) ?_
    refine sf_rd (i:=10) [10,11,12,13,14] (blind_of fun _ _ _ h=>h.2) rfl rfl rfl (u_load ti3 (et (k20 d6)) ((f306 _ _ _ (hS.get d0) rfl).one d0)) (q20 p7) ?_
    replace h:=bI h; obtain ⟨x311,g312,h⟩:=h
    obtain ⟨b313,o314,cs315,e316,f317,m318⟩:=SlR.elem m296 g312
    obtain ⟨a319,c320,a322,c323,rfl,m321,m324⟩:=m318
    refine sf_pu (i:=11) [11,12,13,14] (blind_of fun _ _ _ h=>h.2) rfl rfl rfl (u_iax Tryz.underlying23 ti41 (et (k20 d3)) (et (k20 d7)) e316) (q20 p8) ?_
    refine sf_pu (i:=12) [12,13,14] (blind_of fun _ _ _ h=>h.2) rfl rfl rfl (u_fa fa41_5 (et (k20 d8)) rfl) (q20 p9) ?_
    refine sf_rd (i:=13) [13,14] (blind_of fun _ _ _ h=>h.2) rfl rfl rfl (u_load ti39 (et (k20 d9)) ((f317 _ hS.a).one d5)) (q30 p0) ?_
    refine sf_pu (i:=14) [14] (blind_of fun _ _ _ h=>h.2) rfl rfl rfl (u_lensl Tryz.underlying39 (et (k30 d0))) (q30 p1) ?_
    refine sf_pu (i:=15) [15] (blind_of fun _ _ _ h=>h.2) rfl rfl rfl (u_move ec) (q30 p2) ?_
    refine sf_nil ?_
    refine xn ?_
    refine cblock ?_
    rw [← ec304] at hS
    refine cloopE ([8]++rg 33 24) (by decide +kernel) (fun n m w=>∃ (μx:M) (i353:Int) (l356:List Int) (v354:Value) (cs355:List Value),m=(yK5 (.i (v354)::(yK2 (yO1 8 (yK20 (yK3 (.i (.int .i64 i353)::(yO20 33 (yO4 53 [])))))))))∧vf_reach_l2 i144 x311 (vf_reach_l1 p_1 n_1) n i353 l356=some r∧Le μ1 μx∧Sq μx w0 w (.row v354 3 1 l356.length cs355::rsF)∧Rw μx cs355 l356) (by rintro _ _ _ ⟨_,_,_,_,_,rfl,_⟩; rfl) _ _ (aK5 (aI (aK2 (aO1 (aK20 (aK3 (aI (aO20 (aO4 aZ))))))))) ⟨_,0,l147,v145,cs146,rfl,h,Le.r,hS,m282⟩ ?_
    rintro n_2 _ t w4 ⟨μ2,i353,l356,v354,cs355,rfl,h,le386,hS,m387⟩
    cases n_2 with
    | zero=>cases h
    | succ n_2 =>
    unfold vf_reach_l2 at h
    refine cnrm (mK5 (mi (mK2 (mO1 (mK20 (mK3 (mi (mO20 (mO4 mz))))))))) ?_
    refine cseq ?_
    refine creg ?_
    refine wl (s_lss (et (k30 d2)) (et (k30 d1)) (dt (q30 p3)) ?_)
    refine wnil ?_
    refine xn ?_
    refine cseq ?_
    refine cifd (et (k30 d3)) (fun h388=>?_) (fun h388=>?_)
    · replace h:=iT h388 h
      refine cskip ?_
      refine xn ?_
      refine cseq ?_
      refine cblock ?_
      refine cseq ?_
      refine creg ?_
      replace h:=bI h; obtain ⟨x389,g390,h⟩:=h
      obtain ⟨b391,o392,cs393,e394,f395,m396⟩:=SlR.elem (m324.up le386) g390
      obtain rfl:=m396
      refine wl (s_iax Tryz.underlying39 ti43 (et (k30 d0)) (et (k30 d2)) e394 (dt (q30 p4)) ?_)
      refine wl (s_loads ti43 (et (k30 d4)) (f395 _ hS.a) rfl (dt (q30 p5)) ?_)
      refine wl (s_alloc ti43 hS ?_); clear hS; intro b397 w5 hb398 hS; refine pu (dt p8) ?_
      refine wl (s_storeA ti43 (et d8) (et (k30 d5)) rfl rfl hS d0 rfl p0 dn ?_)
      clear hS; intro w6 hS
      refine wnil ?_
      refine xn ?_
      refine cseq ?_
      refine ccutE (rg 36 14) (by decide) (fun m w=>∃ (μx:M) (b399:Bool),m=(yK20 (yK10 (yK6 (yO10 36 (yO4 46 (.i (.bool b399)::[]))))))∧vf_reach_j1 i353 l356 x389 (vf_reach_l2 i144 x311 (vf_reach_l1 p_1 n_1) n_2) b399=some r∧Le μ2 μx∧Sq μx w0 w (.row v354 3 1 l356.length cs355::.blk b397 43 [.int .i64 x389.Op,.int .i64 x389.A,.int .i64 x389.N]::rsF)) (by rintro _ _ ⟨_,_,rfl,_⟩; rfl) ?_ ?_
      · refine creg ?_
        refine wl (s_fa fa43_0 (et d8) rfl (dt (q30 p6)) ?_)
        refine wl (s_load ti3 (et (k30 d6)) ((hS.blk d0).cell d0) (dt (q30 p7)) ?_)
        refine wl (s_eqi (et (k30 d7)) ec (dt (q30 p8)) ?_)
        refine wl (s_move (et (k30 d8)) (dt (q30 p9)) ?_)
        refine wspd (k30 d9) (q30 p9) (q30 p9) (fun h400=>?_) (fun h400=>?_)
        · replace h:=iT h400 h
          refine wn rfl (k30 d9) rfl (dt (q40 p0)) ?_
          refine wn rfl (k30 d9) rfl (dt (q40 p1)) ?_
          refine wn rfl (k30 d9) rfl (dt (q40 p2)) ?_
          refine wl (s_pickt (et (k30 d9)) ec (dt (q40 p3)) ?_)
          refine wl (s_move (et (k40 d3)) (dt (q40 p4)) ?_)
          refine wy rfl (k40 d4) (s_move (et d5) (dt (q40 p5)) ?_)
          refine wy rfl (k40 d4) (s_fa fa43_1 (et d8) rfl (dt (q40 p6)) ?_)
          refine wy rfl (k40 d4) (s_load ti3 (et (k40 d6)) ((hS.blk d0).cell d1) (dt (q40 p7)) ?_)
          refine wy rfl (k40 d4) (s_callv isfn66 ef (e1 (et (k40 d5)) (e1 (et (k40 d7)) e0)) (contains_i_c (l:=l356) (cells_row int1 (hS.get d1) m387)) ?_); rintro _ w7 ⟨rfl,hw_⟩; replace hS:=hw_ ▸ hS; clear hw_; refine pu (dt (q40 p8)) ?_
          refine wy rfl (k40 d4) (s_not (et (k40 d8)) (dt (q40 p9)) ?_)
          refine wl (s_pickt (et (k40 d4)) (et (k40 d9)) (dt (q50 p0)) ?_)
          refine wnil ?_
          refine xl ?_
          replace hS:=hS.bg (Bg.s Bg.z)
          exact ⟨_,_,rfl,(aK20 (aK10 (aK6 (aO10 (aO4 (aI aZ)))))),_,(!(l356.contains x389.A)),rfl,h,Le.r,hS⟩
        · replace h:=iF h400 h
          refine wy rfl (k30 d9) (s_fa fa43_0 (et d8) rfl (dt (q40 p0)) ?_)
          refine wy rfl (k30 d9) (s_load ti3 (et (k40 d0)) ((hS.blk d0).cell d0) (dt (q40 p1)) ?_)
          refine wy rfl (k30 d9) (s_eqi (et (k40 d1)) ec (dt (q40 p2)) ?_)
          refine wl (s_pickf (et (k30 d9)) (et (k40 d2)) (dt (q40 p3)) ?_)
          refine wl (s_move (et (k40 d3)) (dt (q40 p4)) ?_)
          refine wspd (k40 d4) (q40 p4) (q40 p4) (fun h402=>?_) (fun h402=>?_)
          · replace h:=iT h402 h
            refine wy rfl (k40 d4) (s_move (et d5) (dt (q40 p5)) ?_)
            refine wy rfl (k40 d4) (s_fa fa43_1 (et d8) rfl (dt (q40 p6)) ?_)
            refine wy rfl (k40 d4) (s_load ti3 (et (k40 d6)) ((hS.blk d0).cell d1) (dt (q40 p7)) ?_)
            refine wy rfl (k40 d4) (s_callv isfn66 ef (e1 (et (k40 d5)) (e1 (et (k40 d7)) e0)) (contains_i_c (l:=l356) (cells_row int1 (hS.get d1) m387)) ?_); rintro _ w8 ⟨rfl,hw_⟩; replace hS:=hw_ ▸ hS; clear hw_; refine pu (dt (q40 p8)) ?_
            refine wy rfl (k40 d4) (s_not (et (k40 d8)) (dt (q40 p9)) ?_)
            refine wl (s_pickt (et (k40 d4)) (et (k40 d9)) (dt (q50 p0)) ?_)
            refine wnil ?_
            refine xl ?_
            replace hS:=hS.bg (Bg.s Bg.z)
            exact ⟨_,_,rfl,(aK20 (aK10 (aK6 (aO10 (aO4 (aI aZ)))))),_,(!(l356.contains x389.A)),rfl,h,Le.r,hS⟩
          · replace h:=iF h402 h
            refine wn rfl (k40 d4) rfl (dt (q40 p5)) ?_
            refine wn rfl (k40 d4) rfl (dt (q40 p6)) ?_
            refine wn rfl (k40 d4) rfl (dt (q40 p7)) ?_
            refine wn rfl (k40 d4) rfl (dt (q40 p8)) ?_
            refine wn rfl (k40 d4) rfl (dt (q40 p9)) ?_
            refine wl (s_pickf (et (k40 d4)) ec (dt (q50 p0)) ?_)
            refine wnil ?_
            refine xl ?_
            replace hS:=hS.bg (Bg.s Bg.z)
            exact ⟨_,_,rfl,(aK20 (aK10 (aK6 (aO10 (aO4 (aI aZ)))))),_,false,rfl,h,Le.r,hS⟩
      · rintro _ t w9 ⟨μ3,b399,rfl,h,le404,hS⟩
        unfold vf_reach_j1 at h
        refine nrm (mK20 (mK10 (mK6 (mO10 (mO4 (mi mz)))))) ?_
        refine xn ?_
        refine cifb (et (k50 d0)) (fun h405=>?_) (fun h405=>?_)
        · replace h:=iT h405 h
          refine creg ?_
          refine wl (s_move (et d5) (dt (q50 p1)) ?_)
          refine wl (s_fa fa43_1 (et d8) rfl (dt (q50 p2)) ?_)
          refine wl (s_load ti3 (et (k50 d2)) ((hS.blk d1).cell d1) (dt (q50 p3)) ?_)
          refine wl (s_bsl Tryz.underlying38 ti3 (Parts.s (et (k50 d3)) rfl Parts.z) rfl rfl hS ?_); clear hS; intro b406 w10 hb407 hS; refine pu (dt (q50 p4)) ?_
          replace h:=bI h; obtain ⟨l410,g411,h⟩:=h
          have m412:Rw μ3 [.int .i64 x389.A] [x389.A]:=(Rw.one (α:=Int) rfl)
          have m409:=Rw.app (m387.up le404) m412 g411
          refine wl (s_app1 Tryz.underlying38 ti3 rfl (et (k50 d1)) (et (k50 d4)) hS d1 (hS.blk d0).cells m412 rfl g411 (by decide) ?_); clear hS; intro v408 w11 rs_ hp_ hS; cases (show _=rs_ from hp_)
          replace hS:=Sep.reput hS p1; refine pu (dt (q50 p5)) ?_
          replace hS:=hS.drop Rm.z
          refine wl (s_assign (et (k50 d5)) (dt p5) ?_)
          refine wnil ?_
          refine (fun h=>bn (xn h)) ?_
          refine creg ?_
          replace h:=bI h; obtain ⟨i413,g414,h⟩:=h
          refine wl (s_addc (et (k30 d2)) ec g414 (dt (q50 p6)) ?_)
          refine wl (s_move (et (k50 d6)) (dt (q30 p2)) ?_)
          refine wnil ?_
          refine xl ?_
          replace hS:=hS.drop (Rm.s Rm.z)
          exact ⟨n_2,_,_,rfl,(aK5 (aI (aK2 (aO1 (aK20 (aK3 (aI (aO20 (aO4 aZ))))))))),⟨_,i413,l410,v408,(cs355++[.int .i64 x389.A]),rfl,h,(le386.t le404),hS,m409⟩,Nat.lt_succ_self _⟩
        · replace h:=iF h405 h
          refine cskip ?_
          refine (fun h=>bn (xn h)) ?_
          refine creg ?_
          replace h:=bI h; obtain ⟨i415,g416,h⟩:=h
          refine wl (s_addc (et (k30 d2)) ec g416 (dt (q50 p6)) ?_)
          refine wl (s_move (et (k50 d6)) (dt (q30 p2)) ?_)
          refine wnil ?_
          refine xl ?_
          replace hS:=hS.drop (Rm.s Rm.z)
          exact ⟨n_2,_,_,rfl,(aK5 (aI (aK2 (aO1 (aK20 (aK3 (aI (aO20 (aO4 aZ))))))))),⟨_,i415,l356,v354,cs355,rfl,h,(le386.t le404),hS,(m387.up le404)⟩,Nat.lt_succ_self _⟩
    · replace h:=iF h388 h
      refine cexit ?_
      refine (fun h=>xe (xe (bh h))) ?_
      refine (fun h=>bn (xn h)) ?_
      refine creg ?_
      refine wl (s_move (et d6) (dt (q10 p5)) ?_)
      replace h:=bI h; obtain ⟨i417,g418,h⟩:=h
      refine wl (s_addc (et (k10 d5)) ec g418 (dt (q10 p6)) ?_)
      refine wl (s_assign (et (k10 d6)) (dt p6) ?_)
      refine wnil ?_
      refine xl ?_
      exact ⟨n_1,_,_,rfl,(aK5 (aI (aI (aK1 (aO1 (aK2 (aO20 (aO20 (aO6 aZ))))))))),⟨_,i417,l356,v354,cs355,rfl,h,(le281.t le386),hS,m387⟩,Nat.lt_succ_self _⟩
  · replace h:=iF h283 h
    refine cexit ?_
    refine (fun h=>xe (xe (bh h))) ?_
    refine xn ?_
    refine cseq ?_
    refine creg ?_
    refine wl (s_move (et d5) (dt (q50 p7)) ?_)
    refine wl (s_assign (et (k50 d7)) (dt p4) ?_)
    refine wnil ?_
    refine xn ?_
    refine cret ?_
    obtain ⟨μ4,a419,c420,e423,le422,m421,hq_⟩:=Sep.frzRow hS m282 rfl; clear hS
    subst e423; have hS:=hq_; clear hq_
    obtain rfl:=oI h
    refine ret1 rfl d4 ?_
    exact ⟨_,a419,c420,rfl,(le281.t le422),hS,m421⟩
theorem vf_owned11_w {μ0:M} {w0 w:World} {rsF:List Res} (hg:Le Gm μ0) {p_1:TInstr} {p_2:Int} {b1:Nat} {o2:Nat} {p_3:Int} {b4:Nat} {o5:Nat} {r:Bool} (m3:At μ0 b1 o2 [.int .i64 p_2]) (m6:At μ0 b4 o5 [.int .i64 p_3]) (h:vf_owned11 p_1 p_2 p_3=some r) (hS:Sq μ0 w0 w (rsF)):CallsV Tryz.prog 44 [.agg ⟨[.int .i64 p_1.Op,.int .i64 p_1.A,.int .i64 p_1.N]⟩,.pointer (some ⟨b1,o2,none⟩),.pointer (some ⟨b4,o5,none⟩)] w (fun v w'=>∃ (μ':M) ,v=.bool r∧Le μ0 μ'∧Sq μ' w0 w' (rsF)):=by
  unfold vf_owned11 at h
  refine enter Tryz.func44 rfl (frm:=[_,_,_,_,_,_,_,_,_,_,_,_,_,_,_]) rfl ?_
  refine cseq ?_
  refine creg ?_
  refine wl (s_box (et d0) rfl hS ?_); clear hS; intro b7 w1 hb8 hS; refine pu (dt p3) ?_
  refine wl (s_assign ec (dt p4) ?_)
  refine wnil ?_
  refine xn ?_
  refine cseq ?_
  refine creg ?_
  refine wl (s_fa fa43_0 (et d3) rfl (dt p5) ?_)
  refine wl (s_load ti3 (et d5) ((hS.blk d0).cell d0) (dt p6) ?_)
  refine wl (s_load ti3 (et d1) ((m3 _ hS.a).one d0) (dt p7) ?_)
  refine wl (s_eqi (et d6) (et d7) (dt p8) ?_)
  refine wl (s_move (et d8) (dt p9) ?_)
  refine wspd d9 p9 p9 (fun h9=>?_) (fun h9=>?_)
  · replace h:=iT h9 h
    refine wy rfl d9 (s_fa fa43_1 (et d3) rfl (dt (q10 p0)) ?_)
    refine wy rfl d9 (s_load ti3 (et (k10 d0)) ((hS.blk d0).cell d1) (dt (q10 p1)) ?_)
    refine wy rfl d9 (s_load ti3 (et d2) ((m6 _ hS.a).one d0) (dt (q10 p2)) ?_)
    refine wy rfl d9 (s_eqi (et (k10 d1)) (et (k10 d2)) (dt (q10 p3)) ?_)
    refine wl (s_pickt (et d9) (et (k10 d3)) (dt (q10 p4)) ?_)
    refine wl (s_assign (et (k10 d4)) (dt p4) ?_)
    refine wnil ?_
    refine xn ?_
    refine cret ?_
    obtain rfl:=oI h
    refine ret1 rfl d4 ?_
    replace hS:=hS.drop Rm.z
    exact ⟨_,rfl,Le.r,hS⟩
  · replace h:=iF h9 h
    refine wn rfl d9 rfl (dt (q10 p0)) ?_
    refine wn rfl d9 rfl (dt (q10 p1)) ?_
    refine wn rfl d9 rfl (dt (q10 p2)) ?_
    refine wn rfl d9 rfl (dt (q10 p3)) ?_
    refine wl (s_pickf (et d9) ec (dt (q10 p4)) ?_)
    refine wl (s_assign (et (k10 d4)) (dt p4) ?_)
    refine wnil ?_
    refine xn ?_
    refine cret ?_
    obtain rfl:=oI h
    refine ret1 rfl d4 ?_
    replace hS:=hS.drop Rm.z
    exact ⟨_,rfl,Le.r,hS⟩
theorem vf_owned1_w {μ0:M} {w0 w:World} {rsF:List Res} (hg:Le Gm μ0) {p_1:Int} {p_2:Option TVc} {b1:Nat} {o2:Nat} {v4:Value} {p_3:Int} {b6:Nat} {o7:Nat} {p_4:Int} {b9:Nat} {o10:Nat} {r:Bool} (m5:Np μ0 v4 p_2) (m3:At μ0 b1 o2 [v4]) (m8:At μ0 b6 o7 [.int .i64 p_3]) (m11:At μ0 b9 o10 [.int .i64 p_4]) (h:vf_owned1 p_1 p_2 p_3 p_4=some r) (hS:Sq μ0 w0 w (rsF)):CallsV Tryz.prog 42 [.int .i64 p_1,.pointer (some ⟨b1,o2,none⟩),.pointer (some ⟨b6,o7,none⟩),.pointer (some ⟨b9,o10,none⟩)] w (fun v w'=>∃ (μ':M) ,v=.bool r∧Le μ0 μ'∧Sq μ' w0 w' (rsF)):=by
  unfold vf_owned1 at h
  refine enter Tryz.func42 rfl (frm:=[_,_,_,_,_,_,_,_,_,_,_,_,_,_,_,_,_,_,_]) rfl ?_
  refine cseq ?_
  refine creg ?_
  refine wl (s_assign ec (dt p5) ?_)
  refine wnil ?_
  refine xn ?_
  refine cseq ?_
  refine creg ?_
  refine wl (s_load ti73 (et d1) ((m3 _ hS.a).one d0) (dt p6) ?_)
  replace h:=bI h; obtain ⟨x12,g13,h⟩:=h
  obtain ⟨b14,o15,cs16,rfl,f17,m18⟩:=Np.get m5 g13
  obtain ⟨v19,rfl,m20⟩:=m18
  refine wl (s_nilck (et d6) (dt p7) ?_)
  refine wl (s_fa fa75_0 (et d7) rfl (dt p8) ?_)
  refine wl (s_load ti72 (et d8) ((f17 _ hS.a).one d0) (dt p9) ?_)
  replace h:=bI h; obtain ⟨x21,g22,h⟩:=h
  obtain ⟨b23,o24,cs25,rfl,f26,m27⟩:=Np.get m20 g22
  obtain ⟨a28,c29,a31,c32,rfl,m30,m33⟩:=m27
  refine wl (s_nilck (et d9) (dt (q10 p0)) ?_)
  refine wl (s_fa fa25_1 (et (k10 d0)) rfl (dt (q10 p1)) ?_)
  refine wl (s_load ti23 (et (k10 d1)) ((f26 _ hS.a).one d1) (dt (q10 p2)) ?_)
  refine wl (s_move (et d0) (dt (q10 p3)) ?_)
  replace h:=bI h; obtain ⟨x34,g35,h⟩:=h
  obtain ⟨b36,o37,cs38,e39,f40,m41⟩:=SlR.elem m33 g35
  obtain ⟨a42,c43,a45,c46,rfl,m44,m47⟩:=m41
  refine wl (s_iax Tryz.underlying23 ti41 (et (k10 d2)) (et (k10 d3)) e39 (dt (q10 p4)) ?_)
  refine wl (s_fa fa41_5 (et (k10 d4)) rfl (dt (q10 p5)) ?_)
  refine wl (s_load ti39 (et (k10 d5)) ((f40 _ hS.a).one d5) (dt (q10 p6)) ?_)
  refine wl (s_mkfn e0 (e1 (et d2) (e1 (et d3) e0)) (dt (q10 p7)) ?_)
  replace h:=bI h; obtain ⟨r48,g49,h⟩:=h
  refine wl (s_callv isfn43 ef (e1 (et (k10 d6)) (e1 (et (k10 d7)) e0)) (conf_n_w hg m47 (⟨isfn44,fun hle_ hm_ g_ hS_=>by obtain rfl:=hm_; exact vf_owned11_w (hg.t hle_) (m8.up hle_) (m11.up hle_) g_ hS_⟩) g49 hS) ?_)
  rintro _ w1 ⟨μ1,rfl,le50,hS⟩
  refine pu (dt (q10 p8)) ?_
  refine wl (s_assign (et (k10 d8)) (dt p5) ?_)
  refine wnil ?_
  refine xn ?_
  refine cret ?_
  obtain rfl:=oI h
  refine ret1 rfl d5 ?_
  exact ⟨_,rfl,le50,hS⟩
theorem vf_owned_w {fu:Nat} {μ0:M} {w0 w:World} {rsF:List Res} (hg:Le Gm μ0) {p_1:TVc} {b1:Nat} {o2:Nat} {v3:Value} {r:TWhere} (m4:Np μ0 v3 p_1.m) (m5:At μ0 b1 o2 [v3]) (h:vf_owned fu p_1=some r) (hS:Sq μ0 w0 w (rsF)):CallsV Tryz.prog 24 [.pointer (some ⟨b1,o2,none⟩)] w (fun v w'=>∃ (μ':M) ,v=.agg ⟨[.int .i64 r.Err,.int .i64 r.Unit,.int .i64 r.At]⟩∧Le μ0 μ'∧Sq μ' w0 w' (rsF)):=by
  unfold vf_owned at h
  refine enter Tryz.func24 rfl (frm:=[_,_,_,_,_,_,_,_,_,_,_,_,_,_,_,_,_,_,_,_,_,_,_,_,_,_,_,_,_,_,_,_,_,_,_,_,_,_,_,_,_,_,_,_,_,_,_,_,_,_,_,_,_,_,_,_,_,_,_]) rfl ?_
  refine cseq ?_
  refine creg ?_
  refine wl (s_box (et d0) rfl hS ?_); clear hS; intro b6 w1 hb7 hS; refine pu (dt p1) ?_
  refine wl (s_alloc ti29 hS ?_); clear hS; intro b8 w2 hb9 hS; refine pu (dt p2) ?_
  refine wnil ?_
  refine xn ?_
  refine cseq ?_
  refine cseq ?_
  refine creg ?_
  refine wl (s_load ti73 (et d1) ((hS.blk d1).cell d0) (dt p9) ?_)
  refine wl (s_nilck (et d9) (dt (q10 p0)) ?_)
  refine wl (s_fa fa75_0 (et (k10 d0)) rfl (dt (q10 p1)) ?_)
  refine wl (s_load ti72 (et (k10 d1)) ((m5 _ hS.a).one d0) (dt (q10 p2)) ?_)
  replace h:=bI h; obtain ⟨x10,g11,h⟩:=h
  obtain ⟨b12,o13,cs14,rfl,f15,m16⟩:=Np.get m4 g11
  obtain ⟨a17,c18,a20,c21,rfl,m19,m22⟩:=m16
  refine wl (s_nilck (et (k10 d2)) (dt (q10 p3)) ?_)
  refine wl (s_fa fa25_0 (et (k10 d3)) rfl (dt (q10 p4)) ?_)
  refine wl (s_load ti22 (et (k10 d4)) ((f15 _ hS.a).one d0) (dt (q10 p5)) ?_)
  refine wl (s_lensl Tryz.underlying22 (et (k10 d5)) (dt (q10 p6)) ?_)
  refine wl (s_move ec (dt (q10 p7)) ?_)
  refine wnil ?_
  refine xn ?_
  refine cblock ?_
  replace hS:=hS.bg (Bg.s Bg.z)
  obtain ⟨μ1,le24,m23,hS⟩:=Sep.frzAt hS
  refine cloopE ([3]++rg 5 4++rg 18 40) (by decide +kernel) (fun n m w=>∃ (μx:M) (i372:Int),m=(yK3 (yO1 3 (yK1 (yO4 5 (yK8 (.i (.int .i64 i372)::(yO20 18 (yO20 38 []))))))))∧vf_owned_l1 fu p_1 x10 n i372=some r∧Le μ1 μx∧Sq μx w0 w (.blk b8 29 [.int .i64 0,.int .i64 0,.int .i64 0]::rsF)) (by rintro _ _ _ ⟨_,_,rfl,_⟩; rfl) _ _ (aK3 (aO1 (aK1 (aO4 (aK8 (aI (aO20 (aO20 aZ)))))))) ⟨_,0,rfl,h,Le.r,hS⟩ ?_
  rintro n_1 _ t w3 ⟨μ2,i372,rfl,h,le720,hS⟩
  cases n_1 with
  | zero=>cases h
  | succ n_1 =>
  unfold vf_owned_l1 at h
  refine cnrm (mK3 (mO1 (mK1 (mO4 (mK8 (mi (mO20 (mO20 mz)))))))) ?_
  refine cseq ?_
  refine creg ?_
  refine wl (s_lss (et (k10 d7)) (et (k10 d6)) (dt (q10 p8)) ?_)
  refine wnil ?_
  refine xn ?_
  refine cseq ?_
  refine cifd (et (k10 d8)) (fun h721=>?_) (fun h721=>?_)
  · replace h:=iT h721 h
    refine cskip ?_
    refine xn ?_
    refine cseq ?_
    refine cblock ?_
    refine cseq ?_
    refine creg ?_
    refine wl (s_move (et (k10 d7)) (dt (q10 p9)) ?_)
    refine wl (s_alloc ti3 hS ?_); clear hS; intro b722 w4 hb723 hS; refine pu (dt p3) ?_
    refine wl (s_store1 ti3 (et d3) (et (k10 d9)) rfl hS d0 p0 rfl p0 dn ?_)
    clear hS; intro w5 hS
    refine wnil ?_
    refine xn ?_
    refine cseq ?_
    refine creg ?_
    refine wl (s_bsl Tryz.underlying38 ti3 (Parts.s ec rfl (Parts.s ec rfl Parts.z)) rfl rfl hS ?_); clear hS; intro b724 w6 hb725 hS; refine pu (dt (q20 p0)) ?_
    refine wl (s_lensl Tryz.underlying38 (et (k20 d0)) (dt (q20 p1)) ?_)
    refine wl (s_move ec (dt (q20 p2)) ?_)
    refine wnil ?_
    refine xn ?_
    refine cblock ?_
    replace hS:=hS.bg (Bg.s Bg.z)
    obtain ⟨μ3,le727,m726,hS⟩:=Sep.frzAt hS
    obtain ⟨μ4,le729,m728,hS⟩:=Sep.frzBlk (l:=([26,27]:List Int)) hS (Rw.cons (α:=Int) (cs:=[.int .i64 26]) rfl (Rw.cons (α:=Int) (cs:=[.int .i64 27]) rfl Rw.nil)) (Nat.le_of_ble_eq_true rfl)
    refine cloopE (rg 5 4++rg 23 34) (by decide +kernel) (fun n m w=>∃ (μx:M) (i842:Int),m=(yK5 (yO4 5 (yK10 (yK3 (.i (.int .i64 i842)::(yO20 23 (yO10 43 (yO4 53 []))))))))∧vf_owned_l2 fu p_1 x10 i372 (vf_owned_l1 fu p_1 x10 n_1) n i842=some r∧Le μ4 μx∧Sq μx w0 w (.blk b8 29 [.int .i64 0,.int .i64 0,.int .i64 0]::rsF)) (by rintro _ _ _ ⟨_,_,rfl,_⟩; rfl) _ _ (aK5 (aO4 (aK10 (aK3 (aI (aO20 (aO10 (aO4 aZ)))))))) ⟨_,0,rfl,h,Le.r,hS⟩ ?_
    rintro n_2 _ t w7 ⟨μ5,i842,rfl,h,le955,hS⟩
    cases n_2 with
    | zero=>cases h
    | succ n_2 =>
    unfold vf_owned_l2 at h
    refine cnrm (mK5 (mO4 (mK10 (mK3 (mi (mO20 (mO10 (mO4 mz)))))))) ?_
    refine cseq ?_
    refine creg ?_
    refine wl (s_lss (et (k20 d2)) (et (k20 d1)) (dt (q20 p3)) ?_)
    refine wnil ?_
    refine xn ?_
    refine cseq ?_
    refine cifd (et (k20 d3)) (fun h956=>?_) (fun h956=>?_)
    · replace h:=iT h956 h
      refine cskip ?_
      refine xn ?_
      refine cseq ?_
      refine cblock ?_
      refine cseq ?_
      refine creg ?_
      replace h:=bI h; obtain ⟨x957,g958,h⟩:=h
      obtain ⟨b959,o960,cs961,e962,f963,m964⟩:=SlR.elem (m728.up le955) g958
      obtain rfl:=m964
      refine wl (s_iax Tryz.underlying38 ti3 (et (k20 d0)) (et (k20 d2)) e962 (dt (q20 p4)) ?_)
      refine wl (s_load ti3 (et (k20 d4)) ((f963 _ hS.a).one d0) (dt (q20 p5)) ?_)
      refine wl (s_alloc ti3 hS ?_); clear hS; intro b965 w8 hb966 hS; refine pu (dt p5) ?_
      refine wl (s_store1 ti3 (et d5) (et (k20 d5)) rfl hS d0 p0 rfl p0 dn ?_)
      clear hS; intro w9 hS
      refine wnil ?_
      refine xn ?_
      refine cseq ?_
      refine creg ?_
      refine wl (s_assign ec (dt p6) ?_)
      refine wnil ?_
      refine xn ?_
      refine cseq ?_
      refine cseq ?_
      refine creg ?_
      refine wl (s_load ti73 (et d1) ((m23 _ ((le720.t (le727.t (le729.t le955))) _ hS.a)).one d0) (dt (q20 p6)) ?_)
      refine wl (s_nilck (et (k20 d6)) (dt (q20 p7)) ?_)
      refine wl (s_fa fa75_0 (et (k20 d7)) rfl (dt (q20 p8)) ?_)
      refine wl (s_load ti72 (et (k20 d8)) ((m5 _ ((le24.t (le720.t (le727.t (le729.t le955)))) _ hS.a)).one d0) (dt (q20 p9)) ?_)
      refine wl (s_nilck (et (k20 d9)) (dt (q30 p0)) ?_)
      refine wl (s_fa fa25_1 (et (k30 d0)) rfl (dt (q30 p1)) ?_)
      refine wl (s_load ti23 (et (k30 d1)) ((f15 _ ((le24.t (le720.t (le727.t (le729.t le955)))) _ hS.a)).one d1) (dt (q30 p2)) ?_)
      refine wl (s_lensl Tryz.underlying23 (et (k30 d2)) (dt (q30 p3)) ?_)
      refine wl (s_move ec (dt (q30 p4)) ?_)
      refine wnil ?_
      refine xn ?_
      refine cblock ?_
      obtain ⟨μ6,le968,m967,hS⟩:=Sep.frzAt hS
      refine cloopE (rg 7 2++rg 35 17) (by decide) (fun n m w=>∃ (μx:M) (i1001:Int) (i1002:Int),m=(yK6 (.i (.int .i64 i1001)::(yO2 7 (yK20 (yK5 (.i (.int .i64 i1002)::(yO10 35 (yO7 45 []))))))))∧vf_owned_l3 fu p_1 x10 i372 i842 x957 (vf_owned_l2 fu p_1 x10 i372 (vf_owned_l1 fu p_1 x10 n_1) n_2) n i1001 i1002=some r∧Le μ6 μx∧Sq μx w0 w (.blk b8 29 [.int .i64 0,.int .i64 0,.int .i64 0]::rsF)) (by rintro _ _ _ ⟨_,_,_,rfl,_⟩; rfl) _ _ (aK6 (aI (aO2 (aK20 (aK5 (aI (aO10 (aO7 aZ)))))))) ⟨_,0,0,rfl,h,Le.r,hS⟩ ?_
      rintro n_3 _ t w10 ⟨μ7,i1001,i1002,rfl,h,le1035,hS⟩
      cases n_3 with
      | zero=>cases h
      | succ n_3 =>
      unfold vf_owned_l3 at h
      refine cnrm (mK6 (mi (mO2 (mK20 (mK5 (mi (mO10 (mO7 mz)))))))) ?_
      refine cseq ?_
      refine creg ?_
      refine wl (s_lss (et (k30 d4)) (et (k30 d3)) (dt (q30 p5)) ?_)
      refine wnil ?_
      refine xn ?_
      refine cseq ?_
      refine cifd (et (k30 d5)) (fun h1036=>?_) (fun h1036=>?_)
      · replace h:=iT h1036 h
        refine cskip ?_
        refine xn ?_
        refine cseq ?_
        refine cblock ?_
        refine cseq ?_
        refine creg ?_
        refine wl (s_move (et (k30 d4)) (dt (q30 p6)) ?_)
        replace h:=bI h; obtain ⟨x1037,g1038,h⟩:=h
        obtain ⟨b1039,o1040,cs1041,e1042,f1043,m1044⟩:=SlR.elem (m22.up (le24.t (le720.t (le727.t (le729.t (le955.t (le968.t le1035))))))) g1038
        obtain ⟨a1045,c1046,a1048,c1049,rfl,m1047,m1050⟩:=m1044
        refine wl (s_iax Tryz.underlying23 ti41 (et (k30 d2)) (et (k30 d4)) e1042 (dt (q30 p7)) ?_)
        refine wl (s_loads ti41 (et (k30 d7)) (f1043 _ hS.a) rfl (dt (q30 p8)) ?_)
        refine wl (s_alloc ti41 hS ?_); clear hS; intro b1051 w11 hb1052 hS; refine pu (dt p8) ?_
        refine wl (s_assign (et (k30 d6)) (dt p7) ?_)
        refine wl (s_storeA ti41 (et d8) (et (k30 d8)) rfl rfl hS d0 rfl p0 dn ?_)
        clear hS; intro w12 hS
        refine wnil ?_
        refine xn ?_
        refine cseq ?_
        refine ccutE (rg 39 9) (by decide) (fun m w=>∃ (μx:M) (b1053:Bool),m=(yK20 (yK10 (yK9 (yO9 39 (.i (.bool b1053)::[])))))∧vf_owned_j1 i1001 i1002 (vf_owned_l3 fu p_1 x10 i372 i842 x957 (vf_owned_l2 fu p_1 x10 i372 (vf_owned_l1 fu p_1 x10 n_1) n_2) n_3) b1053=some r∧Le μ7 μx∧Sq μx w0 w (.blk b8 29 [.int .i64 0,.int .i64 0,.int .i64 0]::rsF)) (by rintro _ _ ⟨_,_,rfl,_⟩; rfl) ?_ ?_
        · refine creg ?_
          refine wl (s_fa fa41_0 (et d8) rfl (dt (q30 p9)) ?_)
          refine wl (s_load ti3 (et (k30 d9)) ((hS.blk d0).cell d0) (dt (q40 p0)) ?_)
          refine wl (s_eqi (et (k40 d0)) ec (dt (q40 p1)) ?_)
          refine wl (s_move (et (k40 d1)) (dt (q40 p2)) ?_)
          refine wspd (k40 d2) (q40 p2) (q40 p2) (fun h1054=>?_) (fun h1054=>?_)
          · replace h:=iT h1054 h
            refine wy rfl (k40 d2) (s_load ti73 (et d1) ((m23 _ ((le720.t (le727.t (le729.t (le955.t (le968.t le1035))))) _ hS.a)).one d0) (dt (q40 p3)) ?_)
            refine wy rfl (k40 d2) (s_move (et d7) (dt (q40 p4)) ?_)
            replace h:=bI h; obtain ⟨r1055,g1056,h⟩:=h
            refine wy rfl (k40 d2) (s_callv isfn41 ef (e1 (et (k40 d3)) (e1 (et (k40 d4)) e0)) (vf_reach_w (hg.t (le24.t (le720.t (le727.t (le729.t (le955.t (le968.t le1035))))))) (m4.up (le24.t (le720.t (le727.t (le729.t (le955.t (le968.t le1035))))))) (m5.up (le24.t (le720.t (le727.t (le729.t (le955.t (le968.t le1035))))))) g1056 hS) ?_)
            rintro _ w13 ⟨μ8,a1058,c1059,rfl,le1057,hS,m1060⟩
            refine pu (dt (q40 p5)) ?_
            refine wy rfl (k40 d2) (s_mkfn e0 (e1 (et d1) (e1 (et d5) (e1 (et d3) e0))) (dt (q40 p6)) ?_)
            replace h:=bI h; obtain ⟨r1061,g1062,h⟩:=h
            refine wy rfl (k40 d2) (s_callv isfn40 ef (e1 (et (k40 d5)) (e1 (et (k40 d6)) e0)) (conf_i_w (hg.t (le24.t (le720.t (le727.t (le729.t (le955.t (le968.t (le1035.t le1057)))))))) m1060 (⟨isfn42,fun hle_ hm_ g_ hS_=>by obtain rfl:=hm_; exact vf_owned1_w ((hg.t (le24.t (le720.t (le727.t (le729.t (le955.t (le968.t (le1035.t le1057)))))))).t hle_) ((Np.of (α:=TVc) (m5.up (le24.t (le720.t (le727.t (le729.t (le955.t (le968.t (le1035.t le1057)))))))) (TVc.i ⟨(.pointer (some ⟨b12,o13,none⟩)),rfl,(m4.up (le24.t (le720.t (le727.t (le729.t (le955.t (le968.t (le1035.t le1057))))))))⟩)).up hle_) ((m23.up (le720.t (le727.t (le729.t (le955.t (le968.t (le1035.t le1057))))))).up hle_) ((m967.up (le1035.t le1057)).up hle_) ((m726.up (le729.t (le955.t (le968.t (le1035.t le1057))))).up hle_) g_ hS_⟩) g1062 hS) ?_)
            rintro _ w14 ⟨μ9,rfl,le1063,hS⟩
            refine pu (dt (q40 p7)) ?_
            refine wl (s_pickt (et (k40 d2)) (et (k40 d7)) (dt (q40 p8)) ?_)
            refine wnil ?_
            refine xl ?_
            replace hS:=hS.drop Rm.z
            exact ⟨_,_,rfl,(aK20 (aK10 (aK9 (aO9 (aI aZ))))),_,r1061,rfl,h,(le1057.t le1063),hS⟩
          · replace h:=iF h1054 h
            refine wn rfl (k40 d2) rfl (dt (q40 p3)) ?_
            refine wn rfl (k40 d2) rfl (dt (q40 p4)) ?_
            refine wn rfl (k40 d2) rfl (dt (q40 p5)) ?_
            refine wn rfl (k40 d2) rfl (dt (q40 p6)) ?_
            refine wn rfl (k40 d2) rfl (dt (q40 p7)) ?_
            refine wl (s_pickf (et (k40 d2)) ec (dt (q40 p8)) ?_)
            refine wnil ?_
            refine xl ?_
            replace hS:=hS.drop Rm.z
            exact ⟨_,_,rfl,(aK20 (aK10 (aK9 (aO9 (aI aZ))))),_,false,rfl,h,Le.r,hS⟩
        · rintro _ t w15 ⟨μ10,b1053,rfl,h,le1064,hS⟩
          unfold vf_owned_j1 at h
          refine nrm (mK20 (mK10 (mK9 (mO9 (mi mz))))) ?_
          refine xn ?_
          refine cifb (et (k40 d8)) (fun h1065=>?_) (fun h1065=>?_)
          · replace h:=iT h1065 h
            refine creg ?_
            refine wl (s_move (et d6) (dt (q40 p9)) ?_)
            replace h:=bI h; obtain ⟨i1066,g1067,h⟩:=h
            refine wl (s_addc (et (k40 d9)) ec g1067 (dt (q50 p0)) ?_)
            refine wl (s_assign (et (k50 d0)) (dt p6) ?_)
            refine wnil ?_
            refine (fun h=>bn (xn h)) ?_
            refine creg ?_
            replace h:=bI h; obtain ⟨i1068,g1069,h⟩:=h
            refine wl (s_addc (et (k30 d4)) ec g1069 (dt (q50 p1)) ?_)
            refine wl (s_move (et (k50 d1)) (dt (q30 p4)) ?_)
            refine wnil ?_
            refine xl ?_
            exact ⟨n_3,_,_,rfl,(aK6 (aI (aO2 (aK20 (aK5 (aI (aO10 (aO7 aZ)))))))),⟨_,i1066,i1068,rfl,h,(le1035.t le1064),hS⟩,Nat.lt_succ_self _⟩
          · replace h:=iF h1065 h
            refine cskip ?_
            refine (fun h=>bn (xn h)) ?_
            refine creg ?_
            replace h:=bI h; obtain ⟨i1070,g1071,h⟩:=h
            refine wl (s_addc (et (k30 d4)) ec g1071 (dt (q50 p1)) ?_)
            refine wl (s_move (et (k50 d1)) (dt (q30 p4)) ?_)
            refine wnil ?_
            refine xl ?_
            exact ⟨n_3,_,_,rfl,(aK6 (aI (aO2 (aK20 (aK5 (aI (aO10 (aO7 aZ)))))))),⟨_,i1001,i1070,rfl,h,(le1035.t le1064),hS⟩,Nat.lt_succ_self _⟩
      · replace h:=iF h1036 h
        refine cexit ?_
        refine (fun h=>xe (xe (bh h))) ?_
        refine xn ?_
        refine cseq ?_
        refine creg ?_
        refine wl (s_move (et d6) (dt (q50 p2)) ?_)
        refine wl (s_gtr (et (k50 d2)) ec (dt (q50 p3)) ?_)
        refine wnil ?_
        refine xn ?_
        refine cifd (et (k50 d3)) (fun h1072=>?_) (fun h1072=>?_)
        · replace h:=iT h1072 h
          refine cseq ?_
          refine creg ?_
          refine wl (s_load ti3 (et d3) ((m726 _ ((le729.t (le955.t (le968.t le1035))) _ hS.a)).one d0) (dt (q50 p4)) ?_)
          refine wl (s_build ti29 pl29 (Fl.o rfl ec rfl rfl p0 (Fl.o rfl (et (k50 d4)) rfl rfl p2 Fl.z)) (dt (q50 p5)) ?_)
          refine wl (s_storeA ti29 (et d2) (et (k50 d5)) rfl rfl hS d0 rfl p0 dn ?_)
          clear hS; intro w16 hS
          refine wnil ?_
          refine xn ?_
          refine cret ?_
          refine (fun h=>br (xr (xr (br (br (xr (xr (br (xr h))))))))) ?_
          obtain rfl:=oI h
          refine retN rfl (RVs.s (.a d2 ti29 (hS.blk d0).cells rfl) RVs.z) ?_
          replace hS:=hS.drop Rm.z
          exact ⟨_,rfl,(le24.t (le720.t (le727.t (le729.t (le955.t (le968.t le1035)))))),hS⟩
        · replace h:=iF h1072 h
          refine cskip ?_
          refine (fun h=>bn (xn h)) ?_
          refine creg ?_
          replace h:=bI h; obtain ⟨i1073,g1074,h⟩:=h
          refine wl (s_addc (et (k20 d2)) ec g1074 (dt (q50 p6)) ?_)
          refine wl (s_move (et (k50 d6)) (dt (q20 p2)) ?_)
          refine wnil ?_
          refine xl ?_
          exact ⟨n_2,_,_,rfl,(aK5 (aO4 (aK10 (aK3 (aI (aO20 (aO10 (aO4 aZ)))))))),⟨_,i1073,rfl,h,(le955.t (le968.t le1035)),hS⟩,Nat.lt_succ_self _⟩
    · replace h:=iF h956 h
      refine cexit ?_
      refine (fun h=>xe (xe (bh h))) ?_
      refine (fun h=>bn (xn h)) ?_
      refine creg ?_
      replace h:=bI h; obtain ⟨i1075,g1076,h⟩:=h
      refine wl (s_addc (et (k10 d7)) ec g1076 (dt (q50 p7)) ?_)
      refine wl (s_move (et (k50 d7)) (dt (q10 p7)) ?_)
      refine wnil ?_
      refine xl ?_
      exact ⟨n_1,_,_,rfl,(aK3 (aO1 (aK1 (aO4 (aK8 (aI (aO20 (aO20 aZ)))))))),⟨_,i1075,rfl,h,(le720.t (le727.t (le729.t le955))),hS⟩,Nat.lt_succ_self _⟩
  · replace h:=iF h721 h
    refine cexit ?_
    refine (fun h=>xe (xe (bh h))) ?_
    refine xn ?_
    refine cseq ?_
    refine creg ?_
    refine wl (s_build ti29 pl29 Fl.z (dt (q50 p8)) ?_)
    refine wl (s_storeA ti29 (et d2) (et (k50 d8)) rfl rfl hS d0 rfl p0 dn ?_)
    clear hS; intro w17 hS
    refine wnil ?_
    refine xn ?_
    refine cret ?_
    obtain rfl:=oI h
    refine retN rfl (RVs.s (.a d2 ti29 (hS.blk d0).cells rfl) RVs.z) ?_
    replace hS:=hS.drop Rm.z
    exact ⟨_,rfl,(le24.t le720),hS⟩
theorem vf_verify_w {fu:Nat} {μ0:M} {w0 w:World} {rsF:List Res} (hg:Le Gm μ0) {p_1:TModule} {a1:Option Addr} {c2:Nat} {a4:Option Addr} {c5:Nat} {r:TWhere} (m3:Sl μ0 a1 c2 p_1.Boxes) (m6:Sl μ0 a4 c5 p_1.Units) (h:vf_verify fu p_1=some r) (hS:Sq μ0 w0 w (rsF)):CallsV Tryz.prog 7 [.agg ⟨[.slice a1 p_1.Boxes.length c2,.slice a4 p_1.Units.length c5]⟩] w (fun v w'=>∃ (μ':M) ,v=.agg ⟨[.int .i64 r.Err,.int .i64 r.Unit,.int .i64 r.At]⟩∧Le μ0 μ'∧Sq μ' w0 w' (rsF)):=by
  unfold vf_verify at h
  refine enter Tryz.func7 rfl (frm:=[_,_,_,_,_,_,_,_,_,_,_,_,_,_,_,_,_,_,_,_,_,_,_,_,_,_,_,_,_,_,_]) rfl ?_
  refine cseq ?_
  refine creg ?_
  refine wl (s_box (et d0) rfl hS ?_); clear hS; intro b7 w1 hb8 hS; refine pu (dt p1) ?_
  refine wl (s_alloc ti29 hS ?_); clear hS; intro b9 w2 hb10 hS; refine pu (dt p2) ?_
  refine wnil ?_
  refine xn ?_
  refine cseq ?_
  refine creg ?_
  refine wl (s_build ti75 pl75 (Fl.o rfl (et d1) rfl rfl p0 Fl.z) (dt p7) ?_)
  refine wl (s_box (et d7) rfl hS ?_); clear hS; intro b11 w3 hb12 hS; refine pu (dt p8) ?_
  refine wl (s_assign (et d8) (dt p3) ?_)
  refine wnil ?_
  refine xn ?_
  refine cseq ?_
  refine cseq ?_
  refine creg ?_
  refine wl (s_move (et d3) (dt p9) ?_)
  replace hS:=hS.bg (Bg.s (Bg.s Bg.z))
  obtain ⟨μ1,le14,m13,hS⟩:=Sep.frzAt hS
  obtain ⟨μ2,le16,m15,hS⟩:=Sep.frzAt hS
  replace h:=bI h; obtain ⟨r17,g18,h⟩:=h
  refine wl (s_callv isfn22 ef (e1 (et d9) e0) (vf_form_w (p_1:=(TVc.mk (some p_1))) (hg.t (le14.t le16)) (Np.of (α:=TModule) (m13.up le16) (TModule.i ⟨a1,c2,a4,c5,rfl,(m3.up (le14.t le16)),(m6.up (le14.t le16))⟩)) m15 g18 hS) ?_)
  rintro _ w4 ⟨μ3,rfl,le19,hS⟩
  refine pu (dt (q10 p0)) ?_
  refine wl (s_alloc ti29 hS ?_); clear hS; intro b20 w5 hb21 hS; refine pu (dt p4) ?_
  refine wl (s_storeA ti29 (et d4) (et (k10 d0)) rfl rfl hS d0 rfl p0 dn ?_)
  clear hS; intro w6 hS
  refine wnil ?_
  refine xn ?_
  refine cseq ?_
  refine creg ?_
  refine wl (s_fa fa29_0 (et d4) rfl (dt (q10 p1)) ?_)
  refine wl (s_load ti27 (et (k10 d1)) ((hS.blk d0).cell d0) (dt (q10 p2)) ?_)
  refine wl (s_nei (et (k10 d2)) ec (dt (q10 p3)) ?_)
  refine wnil ?_
  refine xn ?_
  refine cifd (et (k10 d3)) (fun h22=>?_) (fun h22=>?_)
  · replace h:=iT h22 h
    refine cseq ?_
    refine creg ?_
    refine wl (s_loads ti29 (et d4) (hS.blk d0).cells rfl (dt (q10 p4)) ?_)
    refine wl (s_storeA ti29 (et d2) (et (k10 d4)) rfl rfl hS d1 rfl p1 dn ?_)
    clear hS; intro w7 hS
    refine wnil ?_
    refine xn ?_
    refine cret ?_
    refine xr ?_
    obtain rfl:=oI h
    refine retN rfl (RVs.s (.a d2 ti29 (hS.blk d1).cells rfl) RVs.z) ?_
    replace hS:=hS.drop Rm.z
    replace hS:=hS.drop Rm.z
    exact ⟨_,rfl,(le14.t (le16.t le19)),hS⟩
  · replace h:=iF h22 h
    refine cskip ?_
    refine xn ?_
    refine cseq ?_
    refine cseq ?_
    refine creg ?_
    refine wl (s_fa fa25_1 (et d1) rfl (dt (q10 p5)) ?_)
    refine wl (s_load ti23 (et (k10 d5)) ((m13 _ ((le16.t le19) _ hS.a)).one d1) (dt (q10 p6)) ?_)
    refine wl (s_lensl Tryz.underlying23 (et (k10 d6)) (dt (q10 p7)) ?_)
    refine wl (s_move ec (dt (q10 p8)) ?_)
    refine wnil ?_
    refine xn ?_
    refine cblock ?_
    replace hS:=hS.drop Rm.z
    refine cloopE (rg 5 2++rg 19 10) (by decide) (fun n m w=>∃ (μx:M) (i30:Int),m=(yK5 (yO2 5 (yK10 (yK1 (.i (.int .i64 i30)::(yO10 19 []))))))∧vf_verify_l1 fu p_1 n i30=some r∧Le μ3 μx∧Sq μx w0 w (.blk b9 29 [.int .i64 0,.int .i64 0,.int .i64 0]::rsF)) (by rintro _ _ _ ⟨_,_,rfl,_⟩; rfl) _ _ (aK5 (aO2 (aK10 (aK1 (aI (aO10 aZ)))))) ⟨_,0,rfl,h,Le.r,hS⟩ ?_
    rintro n_1 _ t w8 ⟨μ4,i30,rfl,h,le38,hS⟩
    cases n_1 with
    | zero=>cases h
    | succ n_1 =>
    unfold vf_verify_l1 at h
    refine cnrm (mK5 (mO2 (mK10 (mK1 (mi (mO10 mz)))))) ?_
    refine cseq ?_
    refine creg ?_
    refine wl (s_lss (et (k10 d8)) (et (k10 d7)) (dt (q10 p9)) ?_)
    refine wnil ?_
    refine xn ?_
    refine cseq ?_
    refine cifd (et (k10 d9)) (fun h39=>?_) (fun h39=>?_)
    · replace h:=iT h39 h
      refine cskip ?_
      refine xn ?_
      refine cseq ?_
      refine cblock ?_
      refine cseq ?_
      refine creg ?_
      refine wl (s_move (et (k10 d8)) (dt (q20 p0)) ?_)
      refine wl (s_assign (et (k20 d0)) (dt p5) ?_)
      refine wnil ?_
      refine xn ?_
      refine cseq ?_
      refine creg ?_
      refine wl (s_move (et d3) (dt (q20 p1)) ?_)
      refine wl (s_move (et d5) (dt (q20 p2)) ?_)
      replace h:=bI h; obtain ⟨r40,g41,h⟩:=h
      refine wl (s_callv isfn23 ef (e1 (et (k20 d1)) (e1 (et (k20 d2)) e0)) (vf_code_w (p_1:=(TVc.mk (some p_1))) (hg.t (le14.t (le16.t (le19.t le38)))) (Np.of (α:=TModule) (m13.up (le16.t (le19.t le38))) (TModule.i ⟨a1,c2,a4,c5,rfl,(m3.up (le14.t (le16.t (le19.t le38)))),(m6.up (le14.t (le16.t (le19.t le38))))⟩)) (m15.up (le19.t le38)) g41 hS) ?_)
      rintro _ w9 ⟨μ5,rfl,le42,hS⟩
      refine pu (dt (q20 p3)) ?_
      refine wl (s_alloc ti29 hS ?_); clear hS; intro b43 w10 hb44 hS; refine pu (dt p6) ?_
      refine wl (s_storeA ti29 (et d6) (et (k20 d3)) rfl rfl hS d0 rfl p0 dn ?_)
      clear hS; intro w11 hS
      refine wnil ?_
      refine xn ?_
      refine cseq ?_
      refine creg ?_
      refine wl (s_fa fa29_0 (et d6) rfl (dt (q20 p4)) ?_)
      refine wl (s_load ti27 (et (k20 d4)) ((hS.blk d0).cell d0) (dt (q20 p5)) ?_)
      refine wl (s_nei (et (k20 d5)) ec (dt (q20 p6)) ?_)
      refine wnil ?_
      refine xn ?_
      refine cifd (et (k20 d6)) (fun h45=>?_) (fun h45=>?_)
      · replace h:=iT h45 h
        refine cseq ?_
        refine creg ?_
        refine wl (s_loads ti29 (et d6) (hS.blk d0).cells rfl (dt (q20 p7)) ?_)
        refine wl (s_storeA ti29 (et d2) (et (k20 d7)) rfl rfl hS d1 rfl p1 dn ?_)
        clear hS; intro w12 hS
        refine wnil ?_
        refine xn ?_
        refine cret ?_
        refine (fun h=>br (xr (xr (br (xr h))))) ?_
        obtain rfl:=oI h
        refine retN rfl (RVs.s (.a d2 ti29 (hS.blk d1).cells rfl) RVs.z) ?_
        replace hS:=hS.drop Rm.z
        replace hS:=hS.drop Rm.z
        exact ⟨_,rfl,(le14.t (le16.t (le19.t (le38.t le42)))),hS⟩
      · replace h:=iF h45 h
        refine cskip ?_
        refine (fun h=>bn (xn h)) ?_
        refine creg ?_
        replace h:=bI h; obtain ⟨i46,g47,h⟩:=h
        refine wl (s_addc (et (k10 d8)) ec g47 (dt (q20 p8)) ?_)
        refine wl (s_move (et (k20 d8)) (dt (q10 p8)) ?_)
        refine wnil ?_
        refine xl ?_
        replace hS:=hS.drop Rm.z
        exact ⟨n_1,_,_,rfl,(aK5 (aO2 (aK10 (aK1 (aI (aO10 aZ)))))),⟨_,i46,rfl,h,(le38.t le42),hS⟩,Nat.lt_succ_self _⟩
    · replace h:=iF h39 h
      refine cexit ?_
      refine (fun h=>xe (xe (bh h))) ?_
      refine xn ?_
      refine cseq ?_
      refine creg ?_
      refine wl (s_move (et d3) (dt (q20 p9)) ?_)
      replace h:=bI h; obtain ⟨r48,g49,h⟩:=h
      refine wl (s_callv isfn24 ef (e1 (et (k20 d9)) e0) (vf_owned_w (p_1:=(TVc.mk (some p_1))) (hg.t (le14.t (le16.t (le19.t le38)))) (Np.of (α:=TModule) (m13.up (le16.t (le19.t le38))) (TModule.i ⟨a1,c2,a4,c5,rfl,(m3.up (le14.t (le16.t (le19.t le38)))),(m6.up (le14.t (le16.t (le19.t le38))))⟩)) (m15.up (le19.t le38)) g49 hS) ?_)
      rintro _ w13 ⟨μ6,rfl,le50,hS⟩
      refine pu (dt (q30 p0)) ?_
      refine wl (s_storeA ti29 (et d2) (et (k30 d0)) rfl rfl hS d0 rfl p0 dn ?_)
      clear hS; intro w14 hS
      refine wnil ?_
      refine xn ?_
      refine cret ?_
      obtain rfl:=oI h
      refine retN rfl (RVs.s (.a d2 ti29 (hS.blk d0).cells rfl) RVs.z) ?_
      replace hS:=hS.drop Rm.z
      exact ⟨_,rfl,(le14.t (le16.t (le19.t (le38.t le50)))),hS⟩
end Go.Proofs.YtppgfpelddpnbaaGreatDoor
